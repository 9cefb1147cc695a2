/- Part 3 of the texts that the proof of NodesTurn stands on. -/
import Derived.Test.YtobkigllalbkiaaNodesTurnZB
/- A plain Lean function that answers as the Go function does (none: not told), and the proof that a call answers so. Written by program. -/
set_option linter.unusedVariables false
namespace Go.Proofs.YtobkigllalbkiaaV.M
open Go.RowKit Go.Proofs.YtobkigllalbkiaaV

/-- slices.Clone -/
def m82 (K : Nat) (a0 : List S_Handle) : Option (List S_Handle) := apds 16 ([] : List S_Handle) a0 fun l => some l
set_option maxRecDepth 100000 in
set_option maxHeartbeats 4000000 in
theorem c82 (ok : Okp) (K : Nat) (w : World) (a0 : List S_Handle) (A1 : Option Addr) (c2 : Nat) (hR3 : Rd k_Handle w ok A1 c2 a0) (res : List S_Handle) (hm : m82 K a0 = some res) :
  Calls Try.prog 82 #[.slice A1 a0.length c2] w (fun e w' => ∃ (A0_ : Option Addr) (c0_ : Nat) (sA0_ : List Value), e = .returned (tup [.slice A0_ res.length c0_]) ∧ Sep ok w w' [.row (.slice A0_ res.length c0_) 81 k_Handle.sz res.length sA0_] [RE.chunks k_Handle sA0_ res]) := by
 refine calls_W (args := [.slice A1 a0.length c2]) Try.func82 rfl Try.ntmps82 Try.results82 rfl fun r hr => ?_
 obtain ⟨r1, rfl⟩ := regen (r := r) [(0, .slice A1 a0.length c2)] ⟨hr 0 _ rfl, trivial⟩
 have H : Sep ok w w [] [RE.rd k_Handle A1 c2 a0] := Sep.arg (Sep.start ok w) (re := RE.rd k_Handle A1 c2 a0) rfl rfl hR3
 unfold m82 at hm
 obtain ⟨ys, hys, hbb, hm⟩ := apds_some hm
 obtain rfl := Option.some.inj hm
 refine W_seq ?_
 refine W_region ?_
 refine RL_p (x_assign (v := .slice none 0 0) (by rfl)) ?_
 refine RL_nil ?_
 refine W_seq ?_
 refine W_seq ?_
 refine W_region ?_
 refine RL_p (x_move (v := .slice A1 a0.length c2) (by rfl)) ?_
 refine RL_p (x_eqnil sl87 (by rfl)) ?_
 refine RL_nil ?_
 refine W_cond (by rfl) (fun hb => ?_) (fun hb => ?_)
 ·have hnil : a0 = [] := by
   by_cases hne : a0 = []
   ·exact hne
   ·obtain ⟨g, o, hA, _⟩ := hR3.2.2 hne
    rw [hA] at hb; cases hb
  refine W_seq ?_
  refine W_region ?_
  refine RL_p (x_assign (v := .slice none 0 0) (by rfl)) ?_
  refine RL_nil ?_
  refine W_ret ?_
  subst hnil
  obtain rfl : [] = ys := hys
  have H := H.nilRowK 81 k_Handle
  exact ⟨[.slice none 0 0], (.tmp (by rfl) rfl), none, 0, [], rfl, H.pick [1]⟩
 ·refine W_skip ?_
  refine W_seq ?_
  refine W_region ?_
  refine RL_cons (O_buildSlice0 (D := k_Handle) (by exact wn0 rfl) (by rfl) sl87 sz81 H (fun w4 b5 (H : Sep ok w w4 [.row (.slice (some ⟨b5, 0, none⟩) 0 0) 81 k_Handle.sz 0 []] [RE.rd k_Handle A1 c2 a0, RE.chunks k_Handle [] []]) => ?_))
  refine RL_p (x_move (v := .slice A1 a0.length c2) (by rfl)) ?_
  refine RL_cons (O_appendAll (D := k_Handle) (xs := ([] : List S_Handle)) (i := 0) (j := 1) (zs := a0) (by exact wn0 rfl) (by rfl) (by rfl) (by rfl) H (by rfl) (by rfl) (H.rd (i := 0) (by rfl)) hys sl87 sz81 by81 ze81 (by rfl) (by rfl) hbb (by rfl) (fun w6 A7 c8 cs9 (H : Sep ok w w6 [.row (.slice A7 ys.length c8) 81 k_Handle.sz ys.length cs9] [RE.rd k_Handle A1 c2 a0, RE.chunks k_Handle cs9 ys]) => ?_))
  refine RL_p (x_assign (v := .slice A7 ys.length c8) (by rfl)) ?_
  refine RL_nil ?_
  refine W_ret ?_
  exact ⟨[.slice A7 ys.length c8], (.tmp (by rfl) rfl), A7, c8, cs9, rfl, H.pick [1]⟩
end Go.Proofs.YtobkigllalbkiaaV.M

/- A plain Lean function that answers as the Go function does (none: not told), and the proof that a call answers so. Written by program. -/
set_option linter.unusedVariables false
namespace Go.Proofs.YtobkigllalbkiaaV.M
open Go.RowKit Go.Proofs.YtobkigllalbkiaaV
/-- diorama/arena.Twin -/
def m102 (K : Nat) (a0 : S_Arena) : Option (S_Arena) :=
 (mks 16 (a0.Slots.length : Int) (⟨0, false⟩ : S_Slot) fun l12 => (lete (cpyV l12 0 l12.length a0.Slots) fun l18 => some (⟨l18⟩ : S_Arena)))
set_option maxRecDepth 100000 in
set_option maxHeartbeats 4000000 in
theorem c102 (ok : Okp) (K : Nat) (w : World) (a0 : S_Arena) (A1 : Option Addr) (cp2 : Nat) (hR3 : Rd k_Slot w ok A1 cp2 a0.Slots) (res : S_Arena) (hm : m102 K a0 = some res) :
  Calls Try.prog 102 #[.agg #[.slice A1 a0.Slots.length cp2]] w (fun e w' => ∃ (A0_ : Option Addr) (c0_ : Nat) (sA0_ : List Value), e = .returned (tup [.agg #[.slice A0_ res.Slots.length c0_]]) ∧ Sep ok w w' [.row (.slice A0_ res.Slots.length c0_) 96 k_Slot.sz res.Slots.length sA0_] [RE.chunks k_Slot sA0_ res.Slots]) := by
 refine calls_W (args := [.agg #[.slice A1 a0.Slots.length cp2]]) Try.func102 rfl Try.ntmps102 Try.results102 rfl fun r hr => ?_
 obtain ⟨r1, rfl⟩ := regen (r := r) [(0, .agg #[.slice A1 a0.Slots.length cp2])] ⟨hr 0 _ rfl, trivial⟩
 have H : Sep ok w w [] [RE.rd k_Slot A1 cp2 a0.Slots] := Sep.arg (Sep.start ok w) (re := RE.rd k_Slot A1 cp2 a0.Slots) rfl rfl hR3
 unfold m102 at hm
 refine W_seq ?_
 refine W_region ?_
 refine RL_cons (O_box (by exact wn0 rfl) (by rfl) (by rfl) (by rfl) H (fun w6 b5 (H : Sep ok w w6 [.blk b5 76 [.slice A1 a0.Slots.length cp2]] [RE.rd k_Slot A1 cp2 a0.Slots]) => ?_))
 refine RL_cons (O_alloc (by exact wn0 rfl) (by rfl) ze76 (by rfl) H (fun w8 b7 (H : Sep ok w w8 [.blk b5 76 [.slice A1 a0.Slots.length cp2], .blk b7 76 [.slice none 0 0]] [RE.rd k_Slot A1 cp2 a0.Slots]) => ?_))
 refine RL_nil ?_
 refine W_seq ?_
 refine W_region ?_
 refine RL_p (x_fieldAddr fo76_0 (by rfl)) ?_
 refine RL_p (x_load (j := 0) (v := .slice A1 a0.Slots.length cp2) sc74 (by rfl) (H.cells (i := 0) (by rfl)) (by rfl)) ?_
 refine RL_p (x_len sl74 (by rfl)) ?_
 obtain ⟨l12, h14, hl13, hb15, hm⟩ := mks_some hm
 refine RL_cons (O_makeSlice (D := k_Slot) (x0 := (⟨0, false⟩ : S_Slot)) (by exact wn0 rfl) (by rfl) (by rfl) (by rfl) sl74 sz96 by96 ze96 (by rfl) (by intro w ok; exact rfl) h14 hl13 hb15 H (by rfl) (fun w9 b10 cs11 (H : Sep ok w w9 [.blk b5 76 [.slice A1 a0.Slots.length cp2], .blk b7 76 [.slice none 0 0], .row (.slice (some ⟨b10, 0, none⟩) l12.length l12.length) 96 k_Slot.sz l12.length cs11] [RE.rd k_Slot A1 cp2 a0.Slots, RE.chunks k_Slot cs11 l12]) => ?_))
 refine RL_p (x_assign (v := .slice (some ⟨b10, 0, none⟩) l12.length l12.length) (by rfl)) ?_
 refine RL_nil ?_
 refine W_seq ?_
 refine W_region ?_
 refine RL_p (x_move (v := .slice (some ⟨b10, 0, none⟩) l12.length l12.length) (by rfl)) ?_
 refine RL_p (x_fieldAddr fo76_0 (by rfl)) ?_
 refine RL_p (x_load (j := 0) (v := .slice A1 a0.Slots.length cp2) sc74 (by rfl) (H.cells (i := 0) (by rfl)) (by rfl)) ?_
 obtain ⟨l18, hl19, hm⟩ := lete_some hm
 refine RL_cons (O_copy (D := k_Slot) (i := 2) (j := 1) (lo := 0) (dn := l12.length) (zs := a0.Slots) (by exact wn0 rfl) (by rfl) (by rfl) (H.rowA0 (i := 2) (by rfl)) (by rfl) (by rfl) H (by rfl) (by rfl) (Nat.le_of_eq (Nat.zero_add _)) (H.rd (i := 0) (by rfl)).src sl74 sz96 hl19 (fun w20 cs21 (H : Sep ok w w20 [.blk b5 76 [.slice A1 a0.Slots.length cp2], .blk b7 76 [.slice none 0 0], .row (.slice (some ⟨b10, 0, none⟩) l18.length l12.length) 96 k_Slot.sz l18.length cs21] [RE.rd k_Slot A1 cp2 a0.Slots, RE.chunks k_Slot cs21 l18]) => ?_))
 refine RL_nil ?_
 have hn22 : l12.length = l18.length := by rw [← hl19]; exact (length_cpyV (Nat.le_of_eq (Nat.zero_add _))).symm
 have H : Sep ok w w20 [.blk b5 76 [.slice A1 a0.Slots.length cp2], .blk b7 76 [.slice none 0 0], .row (.slice (some ⟨b10, 0, none⟩) l18.length l18.length) 96 k_Slot.sz l18.length cs21] [RE.rd k_Slot A1 cp2 a0.Slots, RE.chunks k_Slot cs21 l18] := by (try rw [hn22] at H); exact H
 refine W_regen (l := [(2, .pointer (some ⟨b7, 0, none⟩)), (3, .slice (some ⟨b10, 0, none⟩) l18.length l18.length)]) ⟨rfl, (by (try rw [← hn22]); rfl), trivial⟩ fun r23 => ?_
 refine W_seq ?_
 refine W_region ?_
 refine RL_p (x_move (v := .slice (some ⟨b10, 0, none⟩) l18.length l18.length) (by rfl)) ?_
 refine RL_p (x_build (vs := [(0, .slice (some ⟨b10, 0, none⟩) l18.length l18.length)]) (cs := [.slice (some ⟨b10, 0, none⟩) l18.length l18.length]) (by rfl) (by kernel_rfl)) ?_
 refine RL_cons (O_store (i := 1) (off := 0) (by exact wn0 rfl) (by rfl) (by rfl) H (by rfl) (vs := [.slice (some ⟨b10, 0, none⟩) l18.length l18.length]) (by rfl) sz76 (by rfl) (by rfl) (by rfl) (fun w24 (H : Sep ok w w24 [.blk b5 76 [.slice A1 a0.Slots.length cp2], .blk b7 76 [.slice (some ⟨b10, 0, none⟩) l18.length l18.length], .row (.slice (some ⟨b10, 0, none⟩) l18.length l18.length) 96 k_Slot.sz l18.length cs21] [RE.rd k_Slot A1 cp2 a0.Slots, RE.chunks k_Slot cs21 l18]) => ?_))
 refine RL_nil ?_
 refine W_ret ?_
 obtain rfl := Option.some.inj hm
 exact ⟨[.agg #[.slice (some ⟨b10, 0, none⟩) l18.length l18.length]], (.cellA (by rfl) ag76 (H.cells (i := 1) (by rfl)) (by rfl) rfl), (some ⟨b10, 0, none⟩), l18.length, cs21, rfl, (H.pickL [2] (by decide)).pick [1]⟩
end Go.Proofs.YtobkigllalbkiaaV.M

/- A plain Lean function that answers as the Go function does (none: not told), and the proof that a call answers so. Written by program. -/
set_option linter.unusedVariables false
namespace Go.Proofs.YtobkigllalbkiaaV.M
open Go.RowKit Go.Proofs.YtobkigllalbkiaaV
def m53_l1b (K : Nat) (a0 : S_Graph) (v14 : S_Arena) (rec1 : (List (List S_Handle)) → Int → Option (S_Graph)) (l_row52_1 : (List (List S_Handle))) (y13_1 : Int) : Option (S_Graph) :=
 (bif (decide (y13_1 < (a0.Kids.length : Int))) then (idx a0.Kids y13_1 fun el26 => ((m82 K el26).bind fun v45 => (apd 24 l_row52_1 v45 fun l58 => (ck (y13_1 + 1) fun x62 => (rec1 l58 x62))))) else some (⟨v14, l_row52_1⟩ : S_Graph))
def m53_l1 (K : Nat) (a0 : S_Graph) (v14 : S_Arena) : Nat → (List (List S_Handle)) → Int → Option (S_Graph)
 | 0 => fun _ _ => none
 | k + 1 => m53_l1b K a0 v14 (m53_l1 K a0 v14 k)
/-- diorama/nodes.Twin -/
def m53 (K : Nat) (a0 : S_Graph) : Option (S_Graph) :=
 ((m102 K a0.Arena).bind fun v14 => m53_l1 K a0 v14 K ([]) 0)
set_option maxRecDepth 100000 in
set_option maxHeartbeats 4000000 in
theorem c53 (ok : Okp) (K : Nat) (w : World) (a0 : S_Graph) (A1 : Option Addr) (cp2 : Nat) (A5 : Option Addr) (cp6 : Nat) (hR3 : Rd k_Slot w ok A1 cp2 a0.Arena.Slots) (hR7 : Rd (Kd.slice k_Handle) w ok A5 cp6 a0.Kids) (res : S_Graph) (hm : m53 K a0 = some res) :
  Calls Try.prog 53 #[.agg #[.slice A1 a0.Arena.Slots.length cp2, .slice A5 a0.Kids.length cp6]] w (fun e w' => ∃ (A0_ : Option Addr) (c0_ : Nat) (sA0_ : List Value), ∃ (A1_ : Option Addr) (c1_ : Nat) (sA1_ : List Value), e = .returned (tup [.agg #[.slice A0_ res.Arena.Slots.length c0_, .slice A1_ res.Kids.length c1_]]) ∧ Sep ok w w' [.row (.slice A0_ res.Arena.Slots.length c0_) 96 k_Slot.sz res.Arena.Slots.length sA0_, .row (.slice A1_ res.Kids.length c1_) 87 (Kd.slice k_Handle).sz res.Kids.length sA1_] [RE.chunks k_Slot sA0_ res.Arena.Slots, RE.chunks (Kd.slice k_Handle) sA1_ res.Kids]) := by
 refine calls_W (args := [.agg #[.slice A1 a0.Arena.Slots.length cp2, .slice A5 a0.Kids.length cp6]]) Try.func53 rfl Try.ntmps53 Try.results53 rfl fun r hr => ?_
 obtain ⟨r1, rfl⟩ := regen (r := r) [(0, .agg #[.slice A1 a0.Arena.Slots.length cp2, .slice A5 a0.Kids.length cp6])] ⟨hr 0 _ rfl, trivial⟩
 have H : Sep ok w w [] [RDS A1 cp2 a0, RDK A5 cp6 a0] := Sep.arg (Sep.arg (Sep.start ok w) (re := RE.rd k_Slot A1 cp2 a0.Arena.Slots) rfl rfl hR3) (re := RE.rd (Kd.slice k_Handle) A5 cp6 a0.Kids) rfl rfl hR7
 unfold m53 at hm
 refine W_seq ?_
 refine W_region ?_
 refine RL_cons (O_box (by exact wn0 rfl) (by rfl) (by rfl) (by rfl) H (fun w10 b9 (H : Sep ok w w10 [GRB b9 A1 cp2 A5 cp6 a0] [RDS A1 cp2 a0, RDK A5 cp6 a0]) => ?_))
 refine RL_cons (O_alloc (by exact wn0 rfl) (by rfl) ze79 (by rfl) H (fun w12 b11 (H : Sep ok w w12 [GRB b9 A1 cp2 A5 cp6 a0, .blk b11 79 [.slice none 0 0, .slice none 0 0]] [RDS A1 cp2 a0, RDK A5 cp6 a0]) => ?_))
 refine RL_nil ?_
 refine W_seq ?_
 refine W_region ?_
 refine RL_p (x_fieldAddr fo79_0 (by rfl)) ?_
 refine RL_p (x_loadA (j := 0) (vs := [.slice A1 a0.Arena.Slots.length cp2]) ag76 (by rfl) (H.cells (i := 0) (by rfl)) (by rfl) (by rfl)) ?_
 obtain ⟨v14, hv13, hm⟩ := bind_some hm
 refine RL_cons (O_call (by exact wn0 rfl) (by rfl) (by rfl) (x_callL (by rfl) (args := [.agg #[.slice A1 a0.Arena.Slots.length cp2]]) (by rfl) (cf102 _ _)) (c102 (okS ok w [GRB b9 A1 cp2 A5 cp6 a0, .blk b11 79 [.slice none 0 0, .slice none 0 0]]) K w12 a0.Arena A1 cp2 (H.rd (i := 0) (by rfl)) v14 hv13) ?_)
 rintro e w15 ⟨A16, cp17, cs18, rfl, H2⟩
 have H : Sep ok w w15 [GRB b9 A1 cp2 A5 cp6 a0, .blk b11 79 [.slice none 0 0, .slice none 0 0], .row (.slice A16 v14.Slots.length cp17) 96 k_Slot.sz v14.Slots.length cs18] [RDS A1 cp2 a0, RDK A5 cp6 a0, RE.chunks k_Slot cs18 v14.Slots] := H.call H2
 clear H2
 refine ⟨_, rfl, ?_⟩
 show RL _ _ _ _ _ _ _
 refine RL_p (x_build (vs := [(0, .agg #[.slice A16 v14.Slots.length cp17])]) (cs := [.slice A16 v14.Slots.length cp17, .slice none 0 0]) (by rfl) (by kernel_rfl)) ?_
 refine RL_cons (O_alloc (by exact wn0 rfl) (by rfl) ze79 (by rfl) H (fun w22 b21 (H : Sep ok w w22 [GRB b9 A1 cp2 A5 cp6 a0, .blk b11 79 [.slice none 0 0, .slice none 0 0], .row (.slice A16 v14.Slots.length cp17) 96 k_Slot.sz v14.Slots.length cs18, .blk b21 79 [.slice none 0 0, .slice none 0 0]] [RDS A1 cp2 a0, RDK A5 cp6 a0, RE.chunks k_Slot cs18 v14.Slots]) => ?_))
 refine RL_cons (O_store (i := 3) (off := 0) (by exact wn0 rfl) (by rfl) (by rfl) H (by rfl) (vs := [.slice A16 v14.Slots.length cp17, .slice none 0 0]) (by rfl) sz79 (by rfl) (by rfl) (by rfl) (fun w23 (H : Sep ok w w23 [GRB b9 A1 cp2 A5 cp6 a0, .blk b11 79 [.slice none 0 0, .slice none 0 0], .row (.slice A16 v14.Slots.length cp17) 96 k_Slot.sz v14.Slots.length cs18, .blk b21 79 [.slice A16 v14.Slots.length cp17, .slice none 0 0]] [RDS A1 cp2 a0, RDK A5 cp6 a0, RE.chunks k_Slot cs18 v14.Slots]) => ?_))
 refine RL_nil ?_
 refine W_seq ?_
 refine W_seq ?_
 refine W_region ?_
 refine RL_p (x_fieldAddr fo79_1 (by rfl)) ?_
 refine RL_p (x_load (j := 1) (v := .slice A5 a0.Kids.length cp6) sc77 (by rfl) (H.cells (i := 0) (by rfl)) (by rfl)) ?_
 refine RL_p (x_len sl77 (by rfl)) ?_
 refine RL_p (x_move (v := .int .i64 0) (by rfl)) ?_
 refine RL_nil ?_
 refine W_block ?_
 refine W_loop (fun k1 r' w' => ∃ (l_row52_1 : (List (List S_Handle))), ∃ (y13_1 : Int), ∃ (A_row52_1 : Option Addr), ∃ (c_row52_1 : Nat), ∃ (cs_row52_1 : List Value), m53_l1 K a0 v14 k1 l_row52_1 y13_1 = some res ∧ Agr [(2, .pointer (some ⟨b11, 0, none⟩)), (3, .pointer (some ⟨b21, 0, none⟩)), (11, .slice A5 a0.Kids.length cp6), (12, .int .i64 (a0.Kids.length : Int)), (13, .int .i64 y13_1)] r' ∧ Sep ok w w' [GRB b9 A1 cp2 A5 cp6 a0, .blk b11 79 [.slice none 0 0, .slice none 0 0], .row (.slice A16 v14.Slots.length cp17) 96 k_Slot.sz v14.Slots.length cs18, .blk b21 79 [.slice A16 v14.Slots.length cp17, .slice A_row52_1 l_row52_1.length c_row52_1], .row (.slice A_row52_1 l_row52_1.length c_row52_1) 87 (Kd.slice k_Handle).sz l_row52_1.length cs_row52_1] [RDS A1 cp2 a0, RDK A5 cp6 a0, RE.chunks k_Slot cs18 v14.Slots, RE.chunks (Kd.slice k_Handle) cs_row52_1 l_row52_1]) K ?_ ?_
 ·exact ⟨[], 0, none, 0, [], hm, ⟨rfl, rfl, rfl, rfl, rfl, trivial⟩, (H).nilRowK 87 (Kd.slice k_Handle)⟩
 ·rintro k1 r' w' ⟨l_row52_1, y13_1, A_row52_1, c_row52_1, cs_row52_1, hm, hA, H⟩
  obtain ⟨r24, rfl⟩ := regen _ hA; clear hA
  obtain ⟨w25, rfl⟩ : ∃ W : World, W = w' := ⟨_, rfl⟩
  cases k1 with
  | zero => exact (none_some hm).elim
  | succ k1 =>
   have hm : m53_l1b K a0 v14 (m53_l1 K a0 v14 k1) l_row52_1 y13_1 = some res := hm
   unfold m53_l1b at hm
   obtain ⟨rec1, hrec1⟩ : ∃ f, m53_l1 K a0 v14 k1 = f := ⟨_, rfl⟩
   rw [hrec1] at hm
   refine W_seq ?_
   refine W_region ?_
   refine RL_p (x_lss (by rfl) (by rfl)) ?_
   refine RL_nil ?_
   refine W_seq ?_
   refine W_cond (by rfl) (fun hb => ?_) (fun hb => ?_)
   ·have hm := cond_t hb hm
    refine W_skip ?_
    refine W_seq ?_
    refine W_block ?_
    refine W_seq ?_
    refine W_region ?_
    obtain ⟨el26, h27, h28, he29, hm⟩ := idx_some hm
    obtain ⟨g31, o32, hA30⟩ := (H.rd (i := 1) (by rfl)).addr he29
    obtain ⟨cs33, hk34, hat35, hg_cs33⟩ := (H.rd (i := 1) (by rfl)).openAt hA30 he29
    obtain ⟨A38, cp39, rfl, hR41⟩ := hk34
    have H : Sep ok w w25 [GRB b9 A1 cp2 A5 cp6 a0, .blk b11 79 [.slice none 0 0, .slice none 0 0], .row (.slice A16 v14.Slots.length cp17) 96 k_Slot.sz v14.Slots.length cs18, .blk b21 79 [.slice A16 v14.Slots.length cp17, .slice A_row52_1 l_row52_1.length c_row52_1], .row (.slice A_row52_1 l_row52_1.length c_row52_1) 87 (Kd.slice k_Handle).sz l_row52_1.length cs_row52_1] [RDS A1 cp2 a0, RDK A5 cp6 a0, RE.chunks k_Slot cs18 v14.Slots, RE.chunks (Kd.slice k_Handle) cs_row52_1 l_row52_1, RE.cells g31 (o32 + (y13_1).toNat * 1) [.slice A38 el26.length cp39]] := Sep.also H (re := RE.cells g31 (o32 + (y13_1).toNat * 1) [.slice A38 el26.length cp39]) ⟨hg_cs33, hat35⟩
    have H : Sep ok w w25 [GRB b9 A1 cp2 A5 cp6 a0, .blk b11 79 [.slice none 0 0, .slice none 0 0], .row (.slice A16 v14.Slots.length cp17) 96 k_Slot.sz v14.Slots.length cs18, .blk b21 79 [.slice A16 v14.Slots.length cp17, .slice A_row52_1 l_row52_1.length c_row52_1], .row (.slice A_row52_1 l_row52_1.length c_row52_1) 87 (Kd.slice k_Handle).sz l_row52_1.length cs_row52_1] [RDS A1 cp2 a0, RDK A5 cp6 a0, RE.chunks k_Slot cs18 v14.Slots, RE.chunks (Kd.slice k_Handle) cs_row52_1 l_row52_1, RE.cells g31 (o32 + (y13_1).toNat * 1) [.slice A38 el26.length cp39], RE.rd k_Handle A38 cp39 el26] := Sep.also H (re := RE.rd k_Handle A38 cp39 el26) hR41
    refine RL_p (x_indexAddr sl77 sz87 (by rfl) (by rfl) hA30 h27 h28) ?_
    refine RL_p (x_load (j := 0) (v := .slice A38 el26.length cp39) sc87 (by rfl) (H.cellsR (i := 4) (by rfl)) (by rfl)) ?_
    refine RL_p (x_assign (v := .slice A38 el26.length cp39) (by rfl)) ?_
    refine RL_nil ?_
    refine W_draw [.free 0, .take 1, .free 2, .run 3, .run 4, .tail 5, .free 6, .tail 7] (fun wS => Sep ok w wS [GRB b9 A1 cp2 A5 cp6 a0, .blk b11 79 [.slice none 0 0, .slice none 0 0], .row (.slice A16 v14.Slots.length cp17) 96 k_Slot.sz v14.Slots.length cs18, .blk b21 79 [.slice A16 v14.Slots.length cp17, .slice A_row52_1 l_row52_1.length c_row52_1], .row (.slice A_row52_1 l_row52_1.length c_row52_1) 87 (Kd.slice k_Handle).sz l_row52_1.length cs_row52_1] [RDS A1 cp2 a0, RDK A5 cp6 a0, RE.chunks k_Slot cs18 v14.Slots, RE.chunks (Kd.slice k_Handle) cs_row52_1 l_row52_1, RE.cells g31 (o32 + (y13_1).toNat * 1) [.slice A38 el26.length cp39], RE.rd k_Handle A38 cp39 el26]) [5, 7] [0, 2, 6] mixed0 (by kernel_rfl) (by kernel_rfl) (by kernel_rfl) (by rfl) (by exact H.drew) ?_
    obtain ⟨w43, hW⟩ : ∃ W : World, W = { w25 with drawn := w25.drawn + 1 } := ⟨_, rfl⟩
    rw [← hW]
    have H : Sep ok w w43 [GRB b9 A1 cp2 A5 cp6 a0, .blk b11 79 [.slice none 0 0, .slice none 0 0], .row (.slice A16 v14.Slots.length cp17) 96 k_Slot.sz v14.Slots.length cs18, .blk b21 79 [.slice A16 v14.Slots.length cp17, .slice A_row52_1 l_row52_1.length c_row52_1], .row (.slice A_row52_1 l_row52_1.length c_row52_1) 87 (Kd.slice k_Handle).sz l_row52_1.length cs_row52_1] [RDS A1 cp2 a0, RDK A5 cp6 a0, RE.chunks k_Slot cs18 v14.Slots, RE.chunks (Kd.slice k_Handle) cs_row52_1 l_row52_1, RE.cells g31 (o32 + (y13_1).toNat * 1) [.slice A38 el26.length cp39], RE.rd k_Handle A38 cp39 el26] := by rw [hW]; exact H.drew
    clear hW
    refine PR_free (by rfl) (by rfl) (by rfl) (by exact wn0 rfl) (fun wS => (x_fieldAddr fo79_1 (by rfl))) ?_
    refine PR_take (by rfl) (by rfl) (by rfl) (by exact wn0 rfl) (fun wS (H : Sep ok w wS [GRB b9 A1 cp2 A5 cp6 a0, .blk b11 79 [.slice none 0 0, .slice none 0 0], .row (.slice A16 v14.Slots.length cp17) 96 k_Slot.sz v14.Slots.length cs18, .blk b21 79 [.slice A16 v14.Slots.length cp17, .slice A_row52_1 l_row52_1.length c_row52_1], .row (.slice A_row52_1 l_row52_1.length c_row52_1) 87 (Kd.slice k_Handle).sz l_row52_1.length cs_row52_1] [RDS A1 cp2 a0, RDK A5 cp6 a0, RE.chunks k_Slot cs18 v14.Slots, RE.chunks (Kd.slice k_Handle) cs_row52_1 l_row52_1, RE.cells g31 (o32 + (y13_1).toNat * 1) [.slice A38 el26.length cp39], RE.rd k_Handle A38 cp39 el26]) => (x_load (j := 1) (v := .slice A_row52_1 l_row52_1.length c_row52_1) sc77 (by rfl) (H.cells (i := 3) (by rfl)) (by rfl))) ?_
    refine PR_free (by rfl) (by rfl) (by rfl) (by exact wn0 rfl) (fun wS => (x_move (v := .slice A38 el26.length cp39) (by rfl))) ?_
    obtain ⟨v45, hv44, hm⟩ := bind_some hm
    refine PR_run (by rfl) (O_call (by exact wn0 rfl) (by rfl) (by rfl) (x_callL (by rfl) (args := [.slice A38 el26.length cp39]) (by rfl) (cf82 _ _)) (c82 (okS ok w [GRB b9 A1 cp2 A5 cp6 a0, .blk b11 79 [.slice none 0 0, .slice none 0 0], .row (.slice A16 v14.Slots.length cp17) 96 k_Slot.sz v14.Slots.length cs18, .blk b21 79 [.slice A16 v14.Slots.length cp17, .slice A_row52_1 l_row52_1.length c_row52_1], .row (.slice A_row52_1 l_row52_1.length c_row52_1) 87 (Kd.slice k_Handle).sz l_row52_1.length cs_row52_1]) K w43 el26 A38 cp39 (H.rd (i := 5) (by rfl)) v45 hv44) ?_)
    rintro e w46 ⟨A47, cp48, cs49, rfl, H2⟩
    have H : Sep ok w w46 [GRB b9 A1 cp2 A5 cp6 a0, .blk b11 79 [.slice none 0 0, .slice none 0 0], .row (.slice A16 v14.Slots.length cp17) 96 k_Slot.sz v14.Slots.length cs18, .blk b21 79 [.slice A16 v14.Slots.length cp17, .slice A_row52_1 l_row52_1.length c_row52_1], .row (.slice A_row52_1 l_row52_1.length c_row52_1) 87 (Kd.slice k_Handle).sz l_row52_1.length cs_row52_1, .row (.slice A47 v45.length cp48) 81 k_Handle.sz v45.length cs49] [RDS A1 cp2 a0, RDK A5 cp6 a0, RE.chunks k_Slot cs18 v14.Slots, RE.chunks (Kd.slice k_Handle) cs_row52_1 l_row52_1, RE.cells g31 (o32 + (y13_1).toNat * 1) [.slice A38 el26.length cp39], RE.rd k_Handle A38 cp39 el26, RE.chunks k_Handle cs49 v45] := H.call H2
    clear H2
    refine ⟨_, rfl, (Sep.takeR (Sep.takeL H 5) 6), ?_⟩
    show PR _ _ _ _ _ _ _ _
    refine PR_run (by rfl) (O_buildSlice (vs := [(0, .slice A47 v45.length cp48)]) (cs := [.slice A47 v45.length cp48]) (by exact wn0 rfl) (by rfl) sl77 sz87 ze87 (by rfl) (by rfl) (by rfl) (by kernel_rfl) H (fun w53 b52 (H : Sep ok w w53 [GRB b9 A1 cp2 A5 cp6 a0, .blk b11 79 [.slice none 0 0, .slice none 0 0], .row (.slice A16 v14.Slots.length cp17) 96 k_Slot.sz v14.Slots.length cs18, .blk b21 79 [.slice A16 v14.Slots.length cp17, .slice A_row52_1 l_row52_1.length c_row52_1], .row (.slice A_row52_1 l_row52_1.length c_row52_1) 87 (Kd.slice k_Handle).sz l_row52_1.length cs_row52_1, .row (.slice A47 v45.length cp48) 81 k_Handle.sz v45.length cs49, .blk b52 87 [.slice A47 v45.length cp48]] [RDS A1 cp2 a0, RDK A5 cp6 a0, RE.chunks k_Slot cs18 v14.Slots, RE.chunks (Kd.slice k_Handle) cs_row52_1 l_row52_1, RE.cells g31 (o32 + (y13_1).toNat * 1) [.slice A38 el26.length cp39], RE.rd k_Handle A38 cp39 el26, RE.chunks k_Handle cs49 v45]) => ⟨(Sep.takeR (Sep.takeL H 5) 6), ?_⟩))
    obtain ⟨l58, hl59, hb60, hm⟩ := apd_some hm
    have H : Sep ok w w53 [GRB b9 A1 cp2 A5 cp6 a0, .blk b11 79 [.slice none 0 0, .slice none 0 0], .row (.slice A16 v14.Slots.length cp17) 96 k_Slot.sz v14.Slots.length cs18, .blk b21 79 [.slice A16 v14.Slots.length cp17, .slice A_row52_1 l_row52_1.length c_row52_1], .row (.slice A_row52_1 l_row52_1.length c_row52_1) 87 (Kd.slice k_Handle).sz l_row52_1.length cs_row52_1, .hole, .blk b52 87 [.slice A47 v45.length cp48]] [RDS A1 cp2 a0, RDK A5 cp6 a0, RE.chunks k_Slot cs18 v14.Slots, RE.chunks (Kd.slice k_Handle) cs_row52_1 l_row52_1, RE.cells g31 (o32 + (y13_1).toNat * 1) [.slice A38 el26.length cp39], RE.rd k_Handle A38 cp39 el26, RE.rd k_Handle A47 cp48 v45] := H.frozen (i := 5) (j := 6) (by rfl) (by rfl)
    refine PR_tail (by rfl) (O_append (D := (Kd.slice k_Handle)) (i := 4) (j := 3) (o := 0) (y := v45) (by exact wn0 rfl) (by rfl) (by rfl) (by rfl) H (by rfl) (by rfl) (H.cells (i := 6) (by rfl)) ⟨A47, cp48, rfl, H.rd (i := 6) (by rfl)⟩ hl59 sl77 sz87 by87 ze87 (by rfl) (by rfl) hb60 (by rfl) (fun w54 A55 cp56 cs57 (H : Sep ok w w54 [GRB b9 A1 cp2 A5 cp6 a0, .blk b11 79 [.slice none 0 0, .slice none 0 0], .row (.slice A16 v14.Slots.length cp17) 96 k_Slot.sz v14.Slots.length cs18, .blk b21 79 [.slice A16 v14.Slots.length cp17, .slice A_row52_1 l_row52_1.length c_row52_1], .row (.slice A55 l58.length cp56) 87 (Kd.slice k_Handle).sz l58.length cs57, .hole, .blk b52 87 [.slice A47 v45.length cp48]] [RDS A1 cp2 a0, RDK A5 cp6 a0, RE.chunks k_Slot cs18 v14.Slots, RE.chunks (Kd.slice k_Handle) cs57 l58, RE.cells g31 (o32 + (y13_1).toNat * 1) [.slice A38 el26.length cp39], RE.rd k_Handle A38 cp39 el26, RE.rd k_Handle A47 cp48 v45]) => ?_))
    refine PR_free (by rfl) (by rfl) (by rfl) (by exact wn0 rfl) (fun wS => (x_fieldAddr fo79_1 (by rfl))) ?_
    refine PR_tail (by rfl) (O_store (i := 3) (off := 1) (by exact wn0 rfl) (by rfl) (by rfl) H (by rfl) (vs := [.slice A55 l58.length cp56]) (by rfl) sz77 (by rfl) (by rfl) (by rfl) (fun w61 (H : Sep ok w w61 [GRB b9 A1 cp2 A5 cp6 a0, .blk b11 79 [.slice none 0 0, .slice none 0 0], .row (.slice A16 v14.Slots.length cp17) 96 k_Slot.sz v14.Slots.length cs18, .blk b21 79 [.slice A16 v14.Slots.length cp17, .slice A55 l58.length cp56], .row (.slice A55 l58.length cp56) 87 (Kd.slice k_Handle).sz l58.length cs57, .hole, .blk b52 87 [.slice A47 v45.length cp48]] [RDS A1 cp2 a0, RDK A5 cp6 a0, RE.chunks k_Slot cs18 v14.Slots, RE.chunks (Kd.slice k_Handle) cs57 l58, RE.cells g31 (o32 + (y13_1).toNat * 1) [.slice A38 el26.length cp39], RE.rd k_Handle A38 cp39 el26, RE.rd k_Handle A47 cp48 v45]) => ?_))
    refine PR_nil ?_
    refine W_region ?_
    obtain ⟨x62, ex62, qx62, ux62, hm⟩ := ck_some hm
    refine RL_p (x_add (by rfl) (by rfl) ux62) ?_
    refine RL_p (x_move (v := .int .i64 x62) (by rfl)) ?_
    refine RL_nil ?_
    subst hrec1
    exact ⟨k1, Nat.lt_succ_self k1, l58, x62, A55, cp56, cs57, hm, ⟨rfl, rfl, rfl, rfl, rfl, trivial⟩, ((H).takeL 5).pick [0, 1, 2, 3]⟩
   ·have hm := cond_f hb hm
    refine W_exit ?_
    refine W_seq ?_
    refine W_region ?_
    refine RL_p (x_loadA (j := 0) (vs := [.slice A16 v14.Slots.length cp17, .slice A_row52_1 l_row52_1.length c_row52_1]) ag79 (by rfl) (H.cells (i := 3) (by rfl)) (by rfl) (by rfl)) ?_
    refine RL_cons (O_store (i := 1) (off := 0) (by exact wn0 rfl) (by rfl) (by rfl) H (by rfl) (vs := [.slice A16 v14.Slots.length cp17, .slice A_row52_1 l_row52_1.length c_row52_1]) (by rfl) sz79 (by rfl) (by rfl) (by rfl) (fun w63 (H : Sep ok w w63 [GRB b9 A1 cp2 A5 cp6 a0, .blk b11 79 [.slice A16 v14.Slots.length cp17, .slice A_row52_1 l_row52_1.length c_row52_1], .row (.slice A16 v14.Slots.length cp17) 96 k_Slot.sz v14.Slots.length cs18, .blk b21 79 [.slice A16 v14.Slots.length cp17, .slice A_row52_1 l_row52_1.length c_row52_1], .row (.slice A_row52_1 l_row52_1.length c_row52_1) 87 (Kd.slice k_Handle).sz l_row52_1.length cs_row52_1] [RDS A1 cp2 a0, RDK A5 cp6 a0, RE.chunks k_Slot cs18 v14.Slots, RE.chunks (Kd.slice k_Handle) cs_row52_1 l_row52_1]) => ?_))
    refine RL_nil ?_
    refine W_ret ?_
    obtain rfl := Option.some.inj hm
    exact ⟨[.agg #[.slice A16 v14.Slots.length cp17, .slice A_row52_1 l_row52_1.length c_row52_1]], (.cellA (by rfl) ag79 (H.cells (i := 1) (by rfl)) (by rfl) rfl), A16, cp17, cs18, A_row52_1, c_row52_1, cs_row52_1, rfl, (H.pickL [2, 4] (by decide)).pick [2, 3]⟩

set_option maxRecDepth 100000 in
set_option maxHeartbeats 4000000 in
theorem c53x (ok : Okp) (K : Nat) (w : World) (a0 : S_Graph) (A1 : Option Addr) (cp2 : Nat) (A5 : Option Addr) (cp6 : Nat) (hR3 : Rd k_Slot w ok A1 cp2 a0.Arena.Slots) (hR7 : Rd (Kd.slice k_Handle) w ok A5 cp6 a0.Kids) (res : S_Graph) (hm : m53 K a0 = some res) :
  Calls Try.prog 53 #[.agg #[.slice A1 a0.Arena.Slots.length cp2, .slice A5 a0.Kids.length cp6]] w (fun e w' => ∃ (A0_ : Option Addr) (c0_ : Nat) (sA0_ : List Value), ∃ (A1_ : Option Addr) (c1_ : Nat) (sA1_ : List Value), ∃ ls : List (Inn S_Handle), ls.map (·.xs) = res.Kids ∧ e = .returned (tup [.agg #[.slice A0_ res.Arena.Slots.length c0_, .slice A1_ (ls.map Inn.hd).length c1_]]) ∧ Sep ok w w' [.row (.slice A0_ res.Arena.Slots.length c0_) 96 k_Slot.sz res.Arena.Slots.length sA0_, .row (.slice A1_ (ls.map Inn.hd).length c1_) 87 kHd.sz (ls.map Inn.hd).length sA1_, rowsOf 81 k_Handle.sz ls] [RE.chunks k_Slot sA0_ res.Arena.Slots, RE.chunks kHd sA1_ (ls.map Inn.hd), RE.inns k_Handle ls]) := by
 refine calls_W (args := [.agg #[.slice A1 a0.Arena.Slots.length cp2, .slice A5 a0.Kids.length cp6]]) Try.func53 rfl Try.ntmps53 Try.results53 rfl fun r hr => ?_
 obtain ⟨r1, rfl⟩ := regen (r := r) [(0, .agg #[.slice A1 a0.Arena.Slots.length cp2, .slice A5 a0.Kids.length cp6])] ⟨hr 0 _ rfl, trivial⟩
 have H : Sep ok w w [] [RDS A1 cp2 a0, RDK A5 cp6 a0] := Sep.arg (Sep.arg (Sep.start ok w) (re := RE.rd k_Slot A1 cp2 a0.Arena.Slots) rfl rfl hR3) (re := RE.rd (Kd.slice k_Handle) A5 cp6 a0.Kids) rfl rfl hR7
 unfold m53 at hm
 refine W_seq ?_
 refine W_region ?_
 refine RL_cons (O_box (by exact wn0 rfl) (by rfl) (by rfl) (by rfl) H (fun w10 b9 (H : Sep ok w w10 [GRB b9 A1 cp2 A5 cp6 a0] [RDS A1 cp2 a0, RDK A5 cp6 a0]) => ?_))
 refine RL_cons (O_alloc (by exact wn0 rfl) (by rfl) ze79 (by rfl) H (fun w12 b11 (H : Sep ok w w12 [GRB b9 A1 cp2 A5 cp6 a0, .blk b11 79 [.slice none 0 0, .slice none 0 0]] [RDS A1 cp2 a0, RDK A5 cp6 a0]) => ?_))
 refine RL_nil ?_
 refine W_seq ?_
 refine W_region ?_
 refine RL_p (x_fieldAddr fo79_0 (by rfl)) ?_
 refine RL_p (x_loadA (j := 0) (vs := [.slice A1 a0.Arena.Slots.length cp2]) ag76 (by rfl) (H.cells (i := 0) (by rfl)) (by rfl) (by rfl)) ?_
 obtain ⟨v14, hv13, hm⟩ := bind_some hm
 refine RL_cons (O_call (by exact wn0 rfl) (by rfl) (by rfl) (x_callL (by rfl) (args := [.agg #[.slice A1 a0.Arena.Slots.length cp2]]) (by rfl) (cf102 _ _)) (c102 (okS ok w [GRB b9 A1 cp2 A5 cp6 a0, .blk b11 79 [.slice none 0 0, .slice none 0 0]]) K w12 a0.Arena A1 cp2 (H.rd (i := 0) (by rfl)) v14 hv13) ?_)
 rintro e w15 ⟨A16, cp17, cs18, rfl, H2⟩
 have H : Sep ok w w15 [GRB b9 A1 cp2 A5 cp6 a0, .blk b11 79 [.slice none 0 0, .slice none 0 0], .row (.slice A16 v14.Slots.length cp17) 96 k_Slot.sz v14.Slots.length cs18] [RDS A1 cp2 a0, RDK A5 cp6 a0, RE.chunks k_Slot cs18 v14.Slots] := H.call H2
 clear H2
 refine ⟨_, rfl, ?_⟩
 show RL _ _ _ _ _ _ _
 refine RL_p (x_build (vs := [(0, .agg #[.slice A16 v14.Slots.length cp17])]) (cs := [.slice A16 v14.Slots.length cp17, .slice none 0 0]) (by rfl) (by kernel_rfl)) ?_
 refine RL_cons (O_alloc (by exact wn0 rfl) (by rfl) ze79 (by rfl) H (fun w22 b21 (H : Sep ok w w22 [GRB b9 A1 cp2 A5 cp6 a0, .blk b11 79 [.slice none 0 0, .slice none 0 0], .row (.slice A16 v14.Slots.length cp17) 96 k_Slot.sz v14.Slots.length cs18, .blk b21 79 [.slice none 0 0, .slice none 0 0]] [RDS A1 cp2 a0, RDK A5 cp6 a0, RE.chunks k_Slot cs18 v14.Slots]) => ?_))
 refine RL_cons (O_store (i := 3) (off := 0) (by exact wn0 rfl) (by rfl) (by rfl) H (by rfl) (vs := [.slice A16 v14.Slots.length cp17, .slice none 0 0]) (by rfl) sz79 (by rfl) (by rfl) (by rfl) (fun w23 (H : Sep ok w w23 [GRB b9 A1 cp2 A5 cp6 a0, .blk b11 79 [.slice none 0 0, .slice none 0 0], .row (.slice A16 v14.Slots.length cp17) 96 k_Slot.sz v14.Slots.length cs18, .blk b21 79 [.slice A16 v14.Slots.length cp17, .slice none 0 0]] [RDS A1 cp2 a0, RDK A5 cp6 a0, RE.chunks k_Slot cs18 v14.Slots]) => ?_))
 refine RL_nil ?_
 refine W_seq ?_
 refine W_seq ?_
 refine W_region ?_
 refine RL_p (x_fieldAddr fo79_1 (by rfl)) ?_
 refine RL_p (x_load (j := 1) (v := .slice A5 a0.Kids.length cp6) sc77 (by rfl) (H.cells (i := 0) (by rfl)) (by rfl)) ?_
 refine RL_p (x_len sl77 (by rfl)) ?_
 refine RL_p (x_move (v := .int .i64 0) (by rfl)) ?_
 refine RL_nil ?_
 refine W_block ?_
 refine W_loop (fun k1 r' w' => ∃ (ls : List (Inn S_Handle)), ∃ (y13_1 : Int), ∃ (A_row52_1 : Option Addr), ∃ (c_row52_1 : Nat), ∃ (cs_row52_1 : List Value), m53_l1 K a0 v14 k1 (ls.map (·.xs)) y13_1 = some res ∧ Agr [(2, .pointer (some ⟨b11, 0, none⟩)), (3, .pointer (some ⟨b21, 0, none⟩)), (11, .slice A5 a0.Kids.length cp6), (12, .int .i64 (a0.Kids.length : Int)), (13, .int .i64 y13_1)] r' ∧ Sep ok w w' [GRB b9 A1 cp2 A5 cp6 a0, .blk b11 79 [.slice none 0 0, .slice none 0 0], .row (.slice A16 v14.Slots.length cp17) 96 k_Slot.sz v14.Slots.length cs18, .blk b21 79 [.slice A16 v14.Slots.length cp17, .slice A_row52_1 (ls.map Inn.hd).length c_row52_1], .row (.slice A_row52_1 (ls.map Inn.hd).length c_row52_1) 87 kHd.sz (ls.map Inn.hd).length cs_row52_1, rowsOf 81 k_Handle.sz ls] [RDS A1 cp2 a0, RDK A5 cp6 a0, RE.chunks k_Slot cs18 v14.Slots, RE.chunks kHd cs_row52_1 (ls.map Inn.hd), RE.inns k_Handle ls]) K ?_ ?_
 ·exact ⟨[], 0, none, 0, [], hm, ⟨rfl, rfl, rfl, rfl, rfl, trivial⟩, (((H).nilRowK 87 kHd).rowsNil (α := S_Handle) 81 k_Handle.sz).also (re := RE.inns k_Handle []) (fun r hr => by simp at hr)⟩
 ·rintro k1 r' w' ⟨ls, y13_1, A_row52_1, c_row52_1, cs_row52_1, hm, hA, H⟩
  obtain ⟨r24, rfl⟩ := regen _ hA; clear hA
  obtain ⟨w25, rfl⟩ : ∃ W : World, W = w' := ⟨_, rfl⟩
  cases k1 with
  | zero => exact (none_some hm).elim
  | succ k1 =>
   have hm : m53_l1b K a0 v14 (m53_l1 K a0 v14 k1) (ls.map (·.xs)) y13_1 = some res := hm
   unfold m53_l1b at hm
   obtain ⟨rec1, hrec1⟩ : ∃ f, m53_l1 K a0 v14 k1 = f := ⟨_, rfl⟩
   rw [hrec1] at hm
   refine W_seq ?_
   refine W_region ?_
   refine RL_p (x_lss (by rfl) (by rfl)) ?_
   refine RL_nil ?_
   refine W_seq ?_
   refine W_cond (by rfl) (fun hb => ?_) (fun hb => ?_)
   ·have hm := cond_t hb hm
    refine W_skip ?_
    refine W_seq ?_
    refine W_block ?_
    refine W_seq ?_
    refine W_region ?_
    obtain ⟨el26, h27, h28, he29, hm⟩ := idx_some hm
    obtain ⟨g31, o32, hA30⟩ := (H.rd (i := 1) (by rfl)).addr he29
    obtain ⟨cs33, hk34, hat35, hg_cs33⟩ := (H.rd (i := 1) (by rfl)).openAt hA30 he29
    obtain ⟨A38, cp39, rfl, hR41⟩ := hk34
    have H : Sep ok w w25 [GRB b9 A1 cp2 A5 cp6 a0, .blk b11 79 [.slice none 0 0, .slice none 0 0], .row (.slice A16 v14.Slots.length cp17) 96 k_Slot.sz v14.Slots.length cs18, .blk b21 79 [.slice A16 v14.Slots.length cp17, .slice A_row52_1 (ls.map Inn.hd).length c_row52_1], .row (.slice A_row52_1 (ls.map Inn.hd).length c_row52_1) 87 kHd.sz (ls.map Inn.hd).length cs_row52_1, rowsOf 81 k_Handle.sz ls] [RDS A1 cp2 a0, RDK A5 cp6 a0, RE.chunks k_Slot cs18 v14.Slots, RE.chunks kHd cs_row52_1 (ls.map Inn.hd), RE.inns k_Handle ls, RE.cells g31 (o32 + (y13_1).toNat * 1) [.slice A38 el26.length cp39]] := Sep.also H (re := RE.cells g31 (o32 + (y13_1).toNat * 1) [.slice A38 el26.length cp39]) ⟨hg_cs33, hat35⟩
    have H : Sep ok w w25 [GRB b9 A1 cp2 A5 cp6 a0, .blk b11 79 [.slice none 0 0, .slice none 0 0], .row (.slice A16 v14.Slots.length cp17) 96 k_Slot.sz v14.Slots.length cs18, .blk b21 79 [.slice A16 v14.Slots.length cp17, .slice A_row52_1 (ls.map Inn.hd).length c_row52_1], .row (.slice A_row52_1 (ls.map Inn.hd).length c_row52_1) 87 kHd.sz (ls.map Inn.hd).length cs_row52_1, rowsOf 81 k_Handle.sz ls] [RDS A1 cp2 a0, RDK A5 cp6 a0, RE.chunks k_Slot cs18 v14.Slots, RE.chunks kHd cs_row52_1 (ls.map Inn.hd), RE.inns k_Handle ls, RE.cells g31 (o32 + (y13_1).toNat * 1) [.slice A38 el26.length cp39], RE.rd k_Handle A38 cp39 el26] := Sep.also H (re := RE.rd k_Handle A38 cp39 el26) hR41
    refine RL_p (x_indexAddr sl77 sz87 (by rfl) (by rfl) hA30 h27 h28) ?_
    refine RL_p (x_load (j := 0) (v := .slice A38 el26.length cp39) sc87 (by rfl) (H.cellsR (i := 5) (by rfl)) (by rfl)) ?_
    refine RL_p (x_assign (v := .slice A38 el26.length cp39) (by rfl)) ?_
    refine RL_nil ?_
    refine W_draw [.free 0, .take 1, .free 2, .run 3, .run 4, .tail 5, .free 6, .tail 7] (fun wS => Sep ok w wS [GRB b9 A1 cp2 A5 cp6 a0, .blk b11 79 [.slice none 0 0, .slice none 0 0], .row (.slice A16 v14.Slots.length cp17) 96 k_Slot.sz v14.Slots.length cs18, .blk b21 79 [.slice A16 v14.Slots.length cp17, .slice A_row52_1 (ls.map Inn.hd).length c_row52_1], .row (.slice A_row52_1 (ls.map Inn.hd).length c_row52_1) 87 kHd.sz (ls.map Inn.hd).length cs_row52_1, rowsOf 81 k_Handle.sz ls] [RDS A1 cp2 a0, RDK A5 cp6 a0, RE.chunks k_Slot cs18 v14.Slots, RE.chunks kHd cs_row52_1 (ls.map Inn.hd), RE.inns k_Handle ls, RE.cells g31 (o32 + (y13_1).toNat * 1) [.slice A38 el26.length cp39], RE.rd k_Handle A38 cp39 el26]) [5, 7] [0, 2, 6] mixed0 (by kernel_rfl) (by kernel_rfl) (by kernel_rfl) (by rfl) (by exact H.drew) ?_
    obtain ⟨w43, hW⟩ : ∃ W : World, W = { w25 with drawn := w25.drawn + 1 } := ⟨_, rfl⟩
    rw [← hW]
    have H : Sep ok w w43 [GRB b9 A1 cp2 A5 cp6 a0, .blk b11 79 [.slice none 0 0, .slice none 0 0], .row (.slice A16 v14.Slots.length cp17) 96 k_Slot.sz v14.Slots.length cs18, .blk b21 79 [.slice A16 v14.Slots.length cp17, .slice A_row52_1 (ls.map Inn.hd).length c_row52_1], .row (.slice A_row52_1 (ls.map Inn.hd).length c_row52_1) 87 kHd.sz (ls.map Inn.hd).length cs_row52_1, rowsOf 81 k_Handle.sz ls] [RDS A1 cp2 a0, RDK A5 cp6 a0, RE.chunks k_Slot cs18 v14.Slots, RE.chunks kHd cs_row52_1 (ls.map Inn.hd), RE.inns k_Handle ls, RE.cells g31 (o32 + (y13_1).toNat * 1) [.slice A38 el26.length cp39], RE.rd k_Handle A38 cp39 el26] := by rw [hW]; exact H.drew
    clear hW
    refine PR_free (by rfl) (by rfl) (by rfl) (by exact wn0 rfl) (fun wS => (x_fieldAddr fo79_1 (by rfl))) ?_
    refine PR_take (by rfl) (by rfl) (by rfl) (by exact wn0 rfl) (fun wS (H : Sep ok w wS [GRB b9 A1 cp2 A5 cp6 a0, .blk b11 79 [.slice none 0 0, .slice none 0 0], .row (.slice A16 v14.Slots.length cp17) 96 k_Slot.sz v14.Slots.length cs18, .blk b21 79 [.slice A16 v14.Slots.length cp17, .slice A_row52_1 (ls.map Inn.hd).length c_row52_1], .row (.slice A_row52_1 (ls.map Inn.hd).length c_row52_1) 87 kHd.sz (ls.map Inn.hd).length cs_row52_1, rowsOf 81 k_Handle.sz ls] [RDS A1 cp2 a0, RDK A5 cp6 a0, RE.chunks k_Slot cs18 v14.Slots, RE.chunks kHd cs_row52_1 (ls.map Inn.hd), RE.inns k_Handle ls, RE.cells g31 (o32 + (y13_1).toNat * 1) [.slice A38 el26.length cp39], RE.rd k_Handle A38 cp39 el26]) => (x_load (j := 1) (v := .slice A_row52_1 (ls.map Inn.hd).length c_row52_1) sc77 (by rfl) (H.cells (i := 3) (by rfl)) (by rfl))) ?_
    refine PR_free (by rfl) (by rfl) (by rfl) (by exact wn0 rfl) (fun wS => (x_move (v := .slice A38 el26.length cp39) (by rfl))) ?_
    obtain ⟨v45, hv44, hm⟩ := bind_some hm
    refine PR_run (by rfl) (O_call (by exact wn0 rfl) (by rfl) (by rfl) (x_callL (by rfl) (args := [.slice A38 el26.length cp39]) (by rfl) (cf82 _ _)) (c82 (okS ok w [GRB b9 A1 cp2 A5 cp6 a0, .blk b11 79 [.slice none 0 0, .slice none 0 0], .row (.slice A16 v14.Slots.length cp17) 96 k_Slot.sz v14.Slots.length cs18, .blk b21 79 [.slice A16 v14.Slots.length cp17, .slice A_row52_1 (ls.map Inn.hd).length c_row52_1], .row (.slice A_row52_1 (ls.map Inn.hd).length c_row52_1) 87 kHd.sz (ls.map Inn.hd).length cs_row52_1, rowsOf 81 k_Handle.sz ls]) K w43 el26 A38 cp39 (H.rd (i := 6) (by rfl)) v45 hv44) ?_)
    rintro e w46 ⟨A47, cp48, cs49, rfl, H2⟩
    have H : Sep ok w w46 [GRB b9 A1 cp2 A5 cp6 a0, .blk b11 79 [.slice none 0 0, .slice none 0 0], .row (.slice A16 v14.Slots.length cp17) 96 k_Slot.sz v14.Slots.length cs18, .blk b21 79 [.slice A16 v14.Slots.length cp17, .slice A_row52_1 (ls.map Inn.hd).length c_row52_1], .row (.slice A_row52_1 (ls.map Inn.hd).length c_row52_1) 87 kHd.sz (ls.map Inn.hd).length cs_row52_1, rowsOf 81 k_Handle.sz ls, .row (.slice A47 v45.length cp48) 81 k_Handle.sz v45.length cs49] [RDS A1 cp2 a0, RDK A5 cp6 a0, RE.chunks k_Slot cs18 v14.Slots, RE.chunks kHd cs_row52_1 (ls.map Inn.hd), RE.inns k_Handle ls, RE.cells g31 (o32 + (y13_1).toNat * 1) [.slice A38 el26.length cp39], RE.rd k_Handle A38 cp39 el26, RE.chunks k_Handle cs49 v45] := H.call H2
    clear H2
    refine ⟨_, rfl, (Sep.takeR (Sep.takeL H 6) 7), ?_⟩
    show PR _ _ _ _ _ _ _ _
    refine PR_run (by rfl) (O_buildSlice (vs := [(0, .slice A47 v45.length cp48)]) (cs := [.slice A47 v45.length cp48]) (by exact wn0 rfl) (by rfl) sl77 sz87 ze87 (by rfl) (by rfl) (by rfl) (by kernel_rfl) H (fun w53 b52 (H : Sep ok w w53 [GRB b9 A1 cp2 A5 cp6 a0, .blk b11 79 [.slice none 0 0, .slice none 0 0], .row (.slice A16 v14.Slots.length cp17) 96 k_Slot.sz v14.Slots.length cs18, .blk b21 79 [.slice A16 v14.Slots.length cp17, .slice A_row52_1 (ls.map Inn.hd).length c_row52_1], .row (.slice A_row52_1 (ls.map Inn.hd).length c_row52_1) 87 kHd.sz (ls.map Inn.hd).length cs_row52_1, rowsOf 81 k_Handle.sz ls, .row (.slice A47 v45.length cp48) 81 k_Handle.sz v45.length cs49, .blk b52 87 [.slice A47 v45.length cp48]] [RDS A1 cp2 a0, RDK A5 cp6 a0, RE.chunks k_Slot cs18 v14.Slots, RE.chunks kHd cs_row52_1 (ls.map Inn.hd), RE.inns k_Handle ls, RE.cells g31 (o32 + (y13_1).toNat * 1) [.slice A38 el26.length cp39], RE.rd k_Handle A38 cp39 el26, RE.chunks k_Handle cs49 v45]) => ⟨(Sep.takeR (Sep.takeL H 6) 7), ?_⟩))
    obtain ⟨l58, hl59, hb60, hm⟩ := apd_some hm
    refine PR_tail (by rfl) (O_append (D := kHd) (xs := ls.map Inn.hd) (ys := (ls ++ [(⟨A47, cp48, cs49, v45⟩ : Inn S_Handle)]).map Inn.hd) (i := 4) (j := 3) (o := 0) (y := (A47, v45.length, cp48)) (by exact wn0 rfl) (by rfl) (by rfl) (by rfl) H (by rfl) (by rfl) (H.cells (i := 7) (by rfl)) rfl (by simp [Inn.hd]) sl77 sz87 by87 ze87 (by rfl) (by rfl) (by simpa using hb60) (by rfl) (fun w54 A55 cp56 cs57 (H : Sep ok w w54 [GRB b9 A1 cp2 A5 cp6 a0, .blk b11 79 [.slice none 0 0, .slice none 0 0], .row (.slice A16 v14.Slots.length cp17) 96 k_Slot.sz v14.Slots.length cs18, .blk b21 79 [.slice A16 v14.Slots.length cp17, .slice A_row52_1 (ls.map Inn.hd).length c_row52_1], .row (.slice A55 ((ls ++ [(⟨A47, cp48, cs49, v45⟩ : Inn S_Handle)]).map Inn.hd).length cp56) 87 kHd.sz ((ls ++ [(⟨A47, cp48, cs49, v45⟩ : Inn S_Handle)]).map Inn.hd).length cs57, rowsOf 81 k_Handle.sz ls, .row (.slice A47 v45.length cp48) 81 k_Handle.sz v45.length cs49, .blk b52 87 [.slice A47 v45.length cp48]] [RDS A1 cp2 a0, RDK A5 cp6 a0, RE.chunks k_Slot cs18 v14.Slots, RE.chunks kHd cs57 ((ls ++ [(⟨A47, cp48, cs49, v45⟩ : Inn S_Handle)]).map Inn.hd), RE.inns k_Handle ls, RE.cells g31 (o32 + (y13_1).toNat * 1) [.slice A38 el26.length cp39], RE.rd k_Handle A38 cp39 el26, RE.chunks k_Handle cs49 v45]) => ?_))
    refine PR_free (by rfl) (by rfl) (by rfl) (by exact wn0 rfl) (fun wS => (x_fieldAddr fo79_1 (by rfl))) ?_
    refine PR_tail (by rfl) (O_store (i := 3) (off := 1) (by exact wn0 rfl) (by rfl) (by rfl) H (by rfl) (vs := [.slice A55 ((ls ++ [(⟨A47, cp48, cs49, v45⟩ : Inn S_Handle)]).map Inn.hd).length cp56]) (by rfl) sz77 (by rfl) (by rfl) (by rfl) (fun w61 (H : Sep ok w w61 [GRB b9 A1 cp2 A5 cp6 a0, .blk b11 79 [.slice none 0 0, .slice none 0 0], .row (.slice A16 v14.Slots.length cp17) 96 k_Slot.sz v14.Slots.length cs18, .blk b21 79 [.slice A16 v14.Slots.length cp17, .slice A55 ((ls ++ [(⟨A47, cp48, cs49, v45⟩ : Inn S_Handle)]).map Inn.hd).length cp56], .row (.slice A55 ((ls ++ [(⟨A47, cp48, cs49, v45⟩ : Inn S_Handle)]).map Inn.hd).length cp56) 87 kHd.sz ((ls ++ [(⟨A47, cp48, cs49, v45⟩ : Inn S_Handle)]).map Inn.hd).length cs57, rowsOf 81 k_Handle.sz ls, .row (.slice A47 v45.length cp48) 81 k_Handle.sz v45.length cs49, .blk b52 87 [.slice A47 v45.length cp48]] [RDS A1 cp2 a0, RDK A5 cp6 a0, RE.chunks k_Slot cs18 v14.Slots, RE.chunks kHd cs57 ((ls ++ [(⟨A47, cp48, cs49, v45⟩ : Inn S_Handle)]).map Inn.hd), RE.inns k_Handle ls, RE.cells g31 (o32 + (y13_1).toNat * 1) [.slice A38 el26.length cp39], RE.rd k_Handle A38 cp39 el26, RE.chunks k_Handle cs49 v45]) => ?_))
    refine PR_nil ?_
    refine W_region ?_
    obtain ⟨x62, ex62, qx62, ux62, hm⟩ := ck_some hm
    refine RL_p (x_add (by rfl) (by rfl) ux62) ?_
    refine RL_p (x_move (v := .int .i64 x62) (by rfl)) ?_
    refine RL_nil ?_
    subst hrec1
    have hin : (RE.inns k_Handle (ls ++ [(⟨A47, cp48, cs49, v45⟩ : Inn S_Handle)])).rel _ _ := fun q hq => by
     rcases List.mem_append.1 hq with hq | hq
     ·exact (show (RE.inns k_Handle ls).rel _ _ from H.rds 4 _ (by rfl)) q hq
     ·simp at hq; subst hq; exact (show (RE.chunks k_Handle cs49 v45).rel _ _ from H.rds 7 _ (by rfl))
    have H := (H.setRe 4 hin).rowsPush (i := 5) (k := 6) (r := (⟨A47, cp48, cs49, v45⟩ : Inn S_Handle)) (by rfl) (by rfl) (by decide)
    exact ⟨k1, Nat.lt_succ_self k1, (ls ++ [(⟨A47, cp48, cs49, v45⟩ : Inn S_Handle)]), x62, A55, cp56, cs57, by rw [← hl59] at hm; simpa using hm, ⟨rfl, rfl, rfl, rfl, rfl, trivial⟩, ((H).takeL 6).pick [0, 1, 2, 3, 4]⟩
   ·have hm := cond_f hb hm
    refine W_exit ?_
    refine W_seq ?_
    refine W_region ?_
    refine RL_p (x_loadA (j := 0) (vs := [.slice A16 v14.Slots.length cp17, .slice A_row52_1 (ls.map Inn.hd).length c_row52_1]) ag79 (by rfl) (H.cells (i := 3) (by rfl)) (by rfl) (by rfl)) ?_
    refine RL_cons (O_store (i := 1) (off := 0) (by exact wn0 rfl) (by rfl) (by rfl) H (by rfl) (vs := [.slice A16 v14.Slots.length cp17, .slice A_row52_1 (ls.map Inn.hd).length c_row52_1]) (by rfl) sz79 (by rfl) (by rfl) (by rfl) (fun w63 (H : Sep ok w w63 [GRB b9 A1 cp2 A5 cp6 a0, .blk b11 79 [.slice A16 v14.Slots.length cp17, .slice A_row52_1 (ls.map Inn.hd).length c_row52_1], .row (.slice A16 v14.Slots.length cp17) 96 k_Slot.sz v14.Slots.length cs18, .blk b21 79 [.slice A16 v14.Slots.length cp17, .slice A_row52_1 (ls.map Inn.hd).length c_row52_1], .row (.slice A_row52_1 (ls.map Inn.hd).length c_row52_1) 87 kHd.sz (ls.map Inn.hd).length cs_row52_1, rowsOf 81 k_Handle.sz ls] [RDS A1 cp2 a0, RDK A5 cp6 a0, RE.chunks k_Slot cs18 v14.Slots, RE.chunks kHd cs_row52_1 (ls.map Inn.hd), RE.inns k_Handle ls]) => ?_))
    refine RL_nil ?_
    refine W_ret ?_
    obtain rfl := Option.some.inj hm
    exact ⟨[.agg #[.slice A16 v14.Slots.length cp17, .slice A_row52_1 (ls.map Inn.hd).length c_row52_1]], (.cellA (by rfl) ag79 (H.cells (i := 1) (by rfl)) (by rfl) rfl), A16, cp17, cs18, A_row52_1, c_row52_1, cs_row52_1, ls, rfl, rfl, (H.pickL [2, 4, 5] (by decide)).pick [2, 3, 4]⟩

theorem c53n (ok : Okp) (hno : ∀ k, ¬ ok.wr k) (K : Nat) (w : World) (a0 : S_Graph) (A1 : Option Addr) (cp2 : Nat) (A5 : Option Addr) (cp6 : Nat) (hR3 : Rd k_Slot w ok A1 cp2 a0.Arena.Slots) (hR7 : Rd (Kd.slice k_Handle) w ok A5 cp6 a0.Kids) (res : S_Graph) (hm : m53 K a0 = some res) :
  Calls Try.prog 53 #[.agg #[.slice A1 a0.Arena.Slots.length cp2, .slice A5 a0.Kids.length cp6]] w (fun e w' => ∃ (A0_ : Option Addr) (c0_ : Nat), ∃ (A1_ : Option Addr) (c1_ : Nat), e = .returned (tup [.agg #[.slice A0_ res.Arena.Slots.length c0_, .slice A1_ res.Kids.length c1_]]) ∧ Sep ok w w' [] [FRS w A0_ c0_ res, FRK w A1_ c1_ res]) :=
 (c53x ok K w a0 A1 cp2 A5 cp6 hR3 hR7 res hm).mono fun e w' ⟨A0_, c0_, s0, A1_, c1_, s1, ls, hls, he, H⟩ => by
  have H := H.frozenF hno (fun _ _ _ _ _ _ h => h) (i := 0) (j := 0) (by rfl) (by rfl)
  have H := H.rowsFreeze hno (fun _ _ _ _ _ _ h => h) (i := 2) (o := 1) (j := 1) (q := 2) (l := ls) (by rfl) (by rw [← (List.length_map Inn.hd : (List.map Inn.hd ls).length = _)]; rfl) (by rfl) (by rfl) (by decide)
  rw [hls] at H
  refine ⟨A0_, c0_, A1_, c1_, ?_, (H.forgetAll).pick [0, 3]⟩
  rw [he, List.length_map, ← hls, List.length_map]
end Go.Proofs.YtobkigllalbkiaaV.M

/- A plain Lean function that answers as the Go function does (none: not told), and the proof that a call answers so. Written by program. -/
set_option linter.unusedVariables false
namespace Go.Proofs.YtobkigllalbkiaaV.M
open Go.RowKit Go.Proofs.YtobkigllalbkiaaV
theorem un3 : Try.prog.underlying 3 = some (.int .i64) := by kernel_rfl
abbrev obH (x : S_Handle) : Obj := .cells ([Value.int .i64 x.Slot, Value.int .i64 x.Gen] : List Value).toArray 81 (0, 0)
theorem ov118 {w : World} {vb m vc o lb cb g c : Nat} {cv cur : List Value} (hv : w.heap[vb]? = some (.cells cv.toArray 81 (0, 0))) (hg : w.heap[g]? = some (.cells cur.toArray 81 (0, 0))) (hne : vb ≠ g) (hc : cur ≠ []) :
  (callFunc 118 #[.slice (some ⟨vb, 0, none⟩) m vc, .slice (some ⟨g, o, none⟩) lb cb]).run Try.prog w = .ok (.value (.bool false)) w :=
 overlaps_own (c := 0) (t := 87) (tR := 4) Try.func118 (by kernel_rfl) (by kernel_rfl) (by kernel_rfl) (by kernel_rfl) sl87 sz81 hv hg hne hc
theorem ins_room {α : Type} {l : List α} {i dn : Nat} {x : α} (h : i < l.length) (hd : 0 < dn) : cpyV (l.take (i + 1) ++ l.drop i) i dn [x] = l.take i ++ x :: l.drop i := by
 unfold cpyV
 have hm : min [x].length dn = 1 := by simp; omega
 rw [hm, List.take_append_of_le_length (by simp; omega), List.take_take, Nat.min_eq_left (by omega), List.drop_left' (by simp; omega)]
 simp
theorem ins_grow {α : Type} {l : List α} {i : Nat} {x x0 : α} (h : i < l.length) : cpyV (cpyV (l.take i ++ List.replicate (l.length + 1 - i) x0) i (l.length + 1 - i) [x]) (i + 1) (l.length - i) (l.drop i) = l.take i ++ x :: l.drop i := by
 have hti : (l.take i).length = i := by simp; omega
 have h1 : cpyV (l.take i ++ List.replicate (l.length + 1 - i) x0) i (l.length + 1 - i) [x] = l.take i ++ [x] ++ List.replicate (l.length - i) x0 := by
  unfold cpyV
  have hm : min [x].length (l.length + 1 - i) = 1 := by simp; omega
  rw [hm, List.take_left' hti, List.drop_append, hti, List.drop_eq_nil_of_le (by omega), List.drop_replicate]
  simp; omega
 rw [h1]
 unfold cpyV
 have hm : min (l.drop i).length (l.length - i) = l.length - i := by simp
 have hl2 : (l.take i ++ [x]).length = i + 1 := by simp; omega
 have hd : (l.drop i).take (l.length - i) = l.drop i := List.take_of_length_le (by simp)
 have hd2 : (l.take i ++ [x] ++ List.replicate (l.length - i) x0).drop (i + 1 + (l.length - i)) = [] := List.drop_eq_nil_of_le (Nat.le_of_eq (by rw [List.length_append, hl2, List.length_replicate]))
 rw [hm, List.take_left' hl2, hd, hd2]
 simp
set_option maxRecDepth 100000 in
set_option maxHeartbeats 4000000 in
/-- slices.Insert, of a row that is handed over: one more. -/
theorem c81 (ok : Okp) (w0 w : World) (a0 : List S_Handle) (i : Nat) (x : S_Handle) (A : Option Addr) (c : Nat) (cs : List Value) (vb : Nat)
  (H : Sep ok w0 w [.row (.slice A a0.length c) 81 k_Handle.sz a0.length cs] [RE.chunks k_Handle cs a0, RE.heap vb (obH x)])
  (h1 : i ≤ a0.length) (hbb : (a0.length + 1) * 16 ≤ 140737488355328) (res : List S_Handle) (hres : a0.take i ++ x :: a0.drop i = res) :
  Calls Try.prog 81 #[.slice A a0.length c, .int .i64 (i : Int), .slice (some ⟨vb, 0, none⟩) 1 1] w (fun e w' => ∃ (A' : Option Addr) (c' : Nat) (cs' : List Value), e = .returned (tup [.slice A' res.length c']) ∧ Sep ok w0 w' [.row (.slice A' res.length c') 81 k_Handle.sz res.length cs'] [RE.chunks k_Handle cs' res]) := by
 refine calls_W (args := [.slice A a0.length c, .int .i64 (i : Int), .slice (some ⟨vb, 0, none⟩) 1 1]) Try.func81 rfl Try.ntmps81 Try.results81 rfl fun r hr => ?_
 obtain ⟨r1, rfl⟩ := regen (r := r) [(0, .slice A a0.length c), (1, .int .i64 (i : Int)), (2, .slice (some ⟨vb, 0, none⟩) 1 1)] ⟨hr 0 _ rfl, hr 1 _ rfl, hr 2 _ rfl, trivial⟩
 obtain ⟨hac, hA⟩ := H.rowForm (i := 0) (by rfl)
 have hrl : res.length = a0.length + 1 := by subst hres; simp; omega
 have hmx : c ≤ 9223372036854775807 := by
  rcases hA with ⟨_, _, rfl⟩ | ⟨g', rfl⟩
  ·omega
  ·obtain ⟨_, _, _, _, hcm, _⟩ := H.rowRaw (i := 0) (by rfl)
   simp only [maxLen] at hcm; omega
 -- the new one, as a slice
 have hvR : ∀ {wS : World} {L : List Ent} {Rs : List RE} {q : Nat}, Sep ok w0 wS L Rs → Rs[q]? = some (RE.heap vb (obH x)) → Rd k_Handle wS (okS ok w0 L) (some ⟨vb, 0, none⟩) 1 [x] := by
  intro wS L Rs q H hq
  have hh : (RE.heap vb (obH x)).rel wS (okS ok w0 L) := H.rds q _ hq
  refine ⟨by simp, by omega, fun _ => ⟨vb, 0, rfl, ⟨_, hh.1, hh.2⟩, fun k y hk => ?_⟩⟩
  have hk0 : k = 0 := by
   have := (List.getElem?_eq_some_iff.1 hk).1
   simpa using this
  subst hk0
  simp at hk; subst hk
  exact ⟨[.int .i64 x.Slot, .int .i64 x.Gen], rfl, CellsAt.of_heap (by simpa using hh.1) fun k v hk => by simpa using hk⟩
 refine W_seq ?_
 refine W_region ?_
 refine RL_pure (by exact wn0 rfl) (by rfl) (by rfl) (x_assign (v := .slice none 0 0) (by rfl)) ?_
 refine RL_nil ?_
 refine W_seq ?_
 refine W_region ?_
 refine RL_pure (by exact wn0 rfl) (by rfl) (by rfl) (x_move (v := .slice A a0.length c) (by rfl)) ?_
 refine RL_pure (by exact wn0 rfl) (by rfl) (by rfl) (x_move (v := .int .i64 (i : Int)) (by rfl)) ?_
 refine RL_pure (by exact wn0 rfl) (by rfl) (by rfl) (x_slice_lo (sz := k_Handle.sz) (A := A) (n := a0.length) (c := c) (k := .i64) (j := (i : Int)) sl87 sz81 (by rfl) (by rfl) (by omega) (by omega)) ?_
 refine RL_nil ?_
 refine W_seq ?_
 refine W_region ?_
 refine RL_pure (by exact wn0 rfl) (by rfl) (by rfl) (x_move (v := .slice (some ⟨vb, 0, none⟩) 1 1) (by rfl)) ?_
 refine RL_pure (by exact wn0 rfl) (by rfl) (by rfl) (x_len sl87 (by rfl)) ?_
 refine RL_pure (by exact wn0 rfl) (by rfl) (by rfl) (x_assign (v := .int .i64 1) (by rfl)) ?_
 refine RL_nil ?_
 refine W_seq ?_
 refine W_seq ?_
 refine W_region ?_
 refine RL_pure (by exact wn0 rfl) (by rfl) (by rfl) (x_move (v := .int .i64 1) (by rfl)) ?_
 refine RL_pure (by exact wn0 rfl) (by rfl) (by rfl) (x_eql (by rfl) (by rfl)) ?_
 refine RL_nil ?_
 refine W_cond (by rfl) (fun hb => ?_) (fun hb => ?_)
 ·exact absurd hb (by decide)
 refine W_skip ?_
 refine W_seq ?_
 refine W_region ?_
 refine RL_pure (by exact wn0 rfl) (by rfl) (by rfl) (x_move (v := .slice A a0.length c) (by rfl)) ?_
 refine RL_pure (by exact wn0 rfl) (by rfl) (by rfl) (x_len sl87 (by rfl)) ?_
 refine RL_pure (by exact wn0 rfl) (by rfl) (by rfl) (x_assign (v := .int .i64 (a0.length : Int)) (by rfl)) ?_
 refine RL_nil ?_
 refine W_seq ?_
 refine W_seq ?_
 refine W_region ?_
 refine RL_pure (by exact wn0 rfl) (by rfl) (by rfl) (x_move (v := .int .i64 (i : Int)) (by rfl)) ?_
 refine RL_pure (by exact wn0 rfl) (by rfl) (by rfl) (x_move (v := .int .i64 (a0.length : Int)) (by rfl)) ?_
 refine RL_pure (by exact wn0 rfl) (by rfl) (by rfl) (x_eql (by rfl) (by rfl)) ?_
 refine RL_nil ?_
 refine W_cond (by rfl) (fun hb => ?_) (fun hb => ?_)
 ·-- at the end
  have hin : i = a0.length := by
   have : (i : Int) = (a0.length : Int) := by simpa using hb
   omega
  have hres2 : a0 ++ [x] = res := by rw [← hres, hin, List.take_length, List.drop_length]
  refine W_seq ?_
  refine W_region ?_
  refine RL_pure (by exact wn0 rfl) (by rfl) (by rfl) (x_move (v := .slice A a0.length c) (by rfl)) ?_
  refine RL_pure (by exact wn0 rfl) (by rfl) (by rfl) (x_move (v := .slice (some ⟨vb, 0, none⟩) 1 1) (by rfl)) ?_
  refine RL_cons (O_appendAll (D := k_Handle) (xs := a0) (i := 0) (j := 0) (zs := [x]) (by exact wn0 rfl) (by rfl) (by rfl) (by rfl) H (by rfl) (by rfl) (hvR (q := 1) H (by rfl)) hres2 sl87 sz81 by81 ze81 (by rfl) (by rfl) (by simpa using hbb) (by rfl) (fun w6 A7 c8 cs9 (H : Sep ok w0 w6 [.row (.slice A7 res.length c8) 81 k_Handle.sz res.length cs9] [RE.chunks k_Handle cs9 res, RE.heap vb (obH x)]) => ?_))
  refine RL_pure (by exact wn0 rfl) (by rfl) (by rfl) (x_assign (v := .slice A7 res.length c8) (by rfl)) ?_
  refine RL_nil ?_
  refine W_ret ?_
  exact ⟨[.slice A7 res.length c8], (.tmp (by rfl) rfl), A7, c8, cs9, rfl, H.pick [0]⟩
 have hin : i < a0.length := by
  have : ¬ (i : Int) = (a0.length : Int) := by simpa using hb
  omega
 obtain ⟨g, rfl⟩ : ∃ g, A = some ⟨g, 0, none⟩ := by
  rcases hA with ⟨_, rfl, _⟩ | h
  ·simp at hin
  ·exact h
 have hn1 : IntKind.i64.wrap ((a0.length : Int) + 1) = ((a0.length + 1 : Nat) : Int) := by rw [wrap_i64_in (by omega)]; push_cast; rfl
 have hi1 : IntKind.i64.wrap ((i : Int) + 1) = ((i + 1 : Nat) : Int) := by rw [wrap_i64_in (by omega)]; push_cast; rfl
 refine W_skip ?_
 refine W_seq ?_
 refine W_seq ?_
 refine W_region ?_
 refine RL_pure (by exact wn0 rfl) (by rfl) (by rfl) (x_move (v := .int .i64 (a0.length : Int)) (by rfl)) ?_
 refine RL_pure (by exact wn0 rfl) (by rfl) (by rfl) (x_move (v := .int .i64 1) (by rfl)) ?_
 refine RL_pure (by exact wn0 rfl) (by rfl) (by rfl) (x_add (by rfl) (by rfl) hn1) ?_
 refine RL_pure (by exact wn0 rfl) (by rfl) (by rfl) (x_move (v := .slice (some ⟨g, 0, none⟩) a0.length c) (by rfl)) ?_
 refine RL_pure (by exact wn0 rfl) (by rfl) (by rfl) (x_cap sl87 (by rfl)) ?_
 refine RL_pure (by exact wn0 rfl) (by rfl) (by rfl) (x_gtr (by rfl) (by rfl)) ?_
 refine RL_nil ?_
 refine W_cond (by rfl) (fun hb2 => ?_) (fun hb2 => ?_)
 ·-- no room
  have hroom : c < a0.length + 1 := by have := of_decide_eq_true hb2; omega
  have hk1 : IntKind.i64.wrap (((a0.length + 1 : Nat) : Int) - (i : Int)) = ((a0.length + 1 - i : Nat) : Int) := by rw [wrap_i64_in (by omega)]; omega
  obtain ⟨y1, hy1⟩ : ∃ y1, a0.take i ++ List.replicate (a0.length + 1 - i) (⟨0, 0⟩ : S_Handle) = y1 := ⟨_, rfl⟩
  have hy1l : y1.length = a0.length + 1 := by subst hy1; simp; omega
  obtain ⟨y2, hy2⟩ : ∃ y2, cpyV y1 i (a0.length + 1 - i) [x] = y2 := ⟨_, rfl⟩
  have hy2l : y2.length = a0.length + 1 := by rw [← hy2, length_cpyV (by omega), hy1l]
  have hy3 : cpyV y2 (i + 1) (a0.length - i) (a0.drop i) = res := by rw [← hy2, ← hy1, ins_grow hin, hres]
  refine W_seq ?_
  refine W_region ?_
  refine RL_pure (by exact wn0 rfl) (by rfl) (by rfl) (x_move (v := .slice (some ⟨g, 0, none⟩) a0.length c) (by rfl)) ?_
  refine RL_pure (by exact wn0 rfl) (by rfl) (by rfl) (x_move (v := .int .i64 (i : Int)) (by rfl)) ?_
  refine RL_pure (by exact wn0 rfl) (by rfl) (by rfl) (x_slice_hi (sz := k_Handle.sz) (A := some ⟨g, 0, none⟩) (n := a0.length) (c := c) (k := .i64) (j := (i : Int)) sl87 sz81 (by rfl) (by rfl) (by omega) (by omega)) ?_
  refine RL_pure (by exact wn0 rfl) (by rfl) (by rfl) (x_move (v := .int .i64 (a0.length : Int)) (by rfl)) ?_
  refine RL_pure (by exact wn0 rfl) (by rfl) (by rfl) (x_move (v := .int .i64 1) (by rfl)) ?_
  refine RL_pure (by exact wn0 rfl) (by rfl) (by rfl) (x_add (by rfl) (by rfl) hn1) ?_
  refine RL_pure (by exact wn0 rfl) (by rfl) (by rfl) (x_move (v := .int .i64 (i : Int)) (by rfl)) ?_
  refine RL_pure (by exact wn0 rfl) (by rfl) (by rfl) (x_sub (by rfl) (by rfl) hk1) ?_
  refine RL_cons (O_appendMake (D := k_Handle) (i := 0) (j := 0) (xs := a0) (A := some ⟨g, 0, none⟩) (lo := i) (k := a0.length + 1 - i) (x0 := (⟨0, 0⟩ : S_Handle)) (kn := .i64) (by exact wn0 rfl) (by rfl) (by rfl) rfl (by rfl) un3 H (by rfl) (by rfl) (by omega) (by omega) (by omega) (by omega) hy1 sl87 sz81 by81 ze81 (by rfl) (by rfl) (fun _ _ => rfl) (by rw [show i + (a0.length + 1 - i) = a0.length + 1 by omega]; exact hbb) (by rfl) (fun w2 g2 c2 cs2 (H : Sep ok w0 w2 [.row (.slice (some ⟨g, 0, none⟩) a0.length c) 81 k_Handle.sz a0.length cs, .row (.slice (some ⟨g2, 0, none⟩) y1.length c2) 81 k_Handle.sz y1.length cs2] [RE.chunks k_Handle cs a0, RE.heap vb (obH x), RE.chunks k_Handle cs2 y1]) => ?_))
  refine RL_pure (by exact wn0 rfl) (by rfl) (by rfl) (x_assign (v := .slice (some ⟨g2, 0, none⟩) y1.length c2) (by rfl)) ?_
  refine RL_nil ?_
  have hc2 := (H.rowForm (i := 1) (by rfl)).1
  refine W_seq ?_
  refine W_region ?_
  refine RL_pure (by exact wn0 rfl) (by rfl) (by rfl) (x_move (v := .slice (some ⟨g2, 0, none⟩) (a0.length + 1) c2) (by rw [← hy1l]; rfl)) ?_
  refine RL_pure (by exact wn0 rfl) (by rfl) (by rfl) (x_move (v := .int .i64 (i : Int)) (by rfl)) ?_
  refine RL_pure (by exact wn0 rfl) (by rfl) (by rfl) (x_slice_lo (sz := k_Handle.sz) (A := some ⟨g2, 0, none⟩) (n := a0.length + 1) (c := c2) (k := .i64) (j := (i : Int)) sl87 sz81 (by rfl) (by rfl) (by omega) (by omega)) ?_
  refine RL_pure (by exact wn0 rfl) (by rfl) (by rfl) (x_move (v := .slice (some ⟨vb, 0, none⟩) 1 1) (by rfl)) ?_
  refine RL_cons (O_copy (D := k_Handle) (i := 1) (j := 2) (xs := y1) (A := some ⟨g2, 0, none⟩) (lo := i) (dn := a0.length + 1 - i) (zs := [x]) (by exact wn0 rfl) (by rfl) (by rfl) (by rfl) (by rfl) (by rfl) H (by rfl) (by rfl) (by omega) (hvR (q := 1) H (by rfl)).src sl87 sz81 hy2 (fun w3 cs3 (H : Sep ok w0 w3 [.row (.slice (some ⟨g, 0, none⟩) a0.length c) 81 k_Handle.sz a0.length cs, .row (.slice (some ⟨g2, 0, none⟩) y2.length c2) 81 k_Handle.sz y2.length cs3] [RE.chunks k_Handle cs a0, RE.heap vb (obH x), RE.chunks k_Handle cs3 y2]) => ?_))
  refine RL_nil ?_
  refine W_seq ?_
  refine W_draw [.free 0, .free 1, .free 2, .free 3, .free 4, .free 5, .free 6, .free 7, .tail 8] (fun wS => Sep ok w0 wS [.row (.slice (some ⟨g, 0, none⟩) a0.length c) 81 k_Handle.sz a0.length cs, .row (.slice (some ⟨g2, 0, none⟩) y2.length c2) 81 k_Handle.sz y2.length cs3] [RE.chunks k_Handle cs a0, RE.heap vb (obH x), RE.chunks k_Handle cs3 y2]) [8] [0, 1, 2, 3, 4, 5, 6, 7] mixed0 (by kernel_rfl) (by kernel_rfl) (by kernel_rfl) (by rfl) (by exact H.drew) ?_
  obtain ⟨w4, hW⟩ : ∃ W : World, W = { w3 with drawn := w3.drawn + 1 } := ⟨_, rfl⟩
  rw [← hW]
  have H : Sep ok w0 w4 [.row (.slice (some ⟨g, 0, none⟩) a0.length c) 81 k_Handle.sz a0.length cs, .row (.slice (some ⟨g2, 0, none⟩) y2.length c2) 81 k_Handle.sz y2.length cs3] [RE.chunks k_Handle cs a0, RE.heap vb (obH x), RE.chunks k_Handle cs3 y2] := by rw [hW]; exact H.drew
  clear hW
  refine PR_free (by rfl) (by rfl) (by rfl) (by exact wn0 rfl) (fun wS => (x_move (v := .slice (some ⟨g2, 0, none⟩) (a0.length + 1) c2) (by rw [← hy1l]; rfl))) ?_
  refine PR_free (by rfl) (by rfl) (by rfl) (by exact wn0 rfl) (fun wS => (x_move (v := .int .i64 (i : Int)) (by rfl))) ?_
  refine PR_free (by rfl) (by rfl) (by rfl) (by exact wn0 rfl) (fun wS => (x_move (v := .int .i64 1) (by rfl))) ?_
  refine PR_free (by rfl) (by rfl) (by rfl) (by exact wn0 rfl) (fun wS => (x_add (by rfl) (by rfl) hi1)) ?_
  refine PR_free (by rfl) (by rfl) (by rfl) (by exact wn0 rfl) (fun wS => (x_slice_lo (sz := k_Handle.sz) (A := some ⟨g2, 0, none⟩) (n := a0.length + 1) (c := c2) (k := .i64) (j := ((i + 1 : Nat) : Int)) sl87 sz81 (by rfl) (by rfl) (by omega) (by omega))) ?_
  refine PR_free (by rfl) (by rfl) (by rfl) (by exact wn0 rfl) (fun wS => (x_move (v := .slice (some ⟨g, 0, none⟩) a0.length c) (by rfl))) ?_
  refine PR_free (by rfl) (by rfl) (by rfl) (by exact wn0 rfl) (fun wS => (x_move (v := .int .i64 (i : Int)) (by rfl))) ?_
  refine PR_free (by rfl) (by rfl) (by rfl) (by exact wn0 rfl) (fun wS => (x_slice_loL (sz := k_Handle.sz) (A := some ⟨g, 0, none⟩) (xs := a0) (c := c) (k := .i64) (j := (i : Int)) sl87 sz81 (by rfl) (by rfl) (by omega) (by omega))) ?_
  have e4 : a0.length + 1 - ((i + 1 : Nat) : Int).toNat = a0.length - i := by simp only [Int.toNat_natCast]; omega
  rw [e4]
  refine PR_tail (by rfl) (O_copy (D := k_Handle) (i := 1) (j := 2) (xs := y2) (A := some ⟨g2, 0, none⟩) (lo := i + 1) (dn := a0.length - i) (zs := a0.drop i) (by exact wn0 rfl) (by rfl) (by rfl) (by rfl) (by rfl) (by rfl) H (by rfl) (by rfl) (by omega) (H.rowSrc (i := 0) (j := 0) (lo := i) (by rfl) (by rfl)) sl87 sz81 hy3 (fun w5 cs5 (H : Sep ok w0 w5 [.row (.slice (some ⟨g, 0, none⟩) a0.length c) 81 k_Handle.sz a0.length cs, .row (.slice (some ⟨g2, 0, none⟩) res.length c2) 81 k_Handle.sz res.length cs5] [RE.chunks k_Handle cs a0, RE.heap vb (obH x), RE.chunks k_Handle cs5 res]) => ?_))
  refine PR_nil ?_
  refine W_seq ?_
  refine W_region ?_
  refine RL_pure (by exact wn0 rfl) (by rfl) (by rfl) (x_move (v := .slice (some ⟨g2, 0, none⟩) res.length c2) (by rw [hrl, ← hy1l]; rfl)) ?_
  refine RL_pure (by exact wn0 rfl) (by rfl) (by rfl) (x_assign (v := .slice (some ⟨g2, 0, none⟩) res.length c2) (by rfl)) ?_
  refine RL_nil ?_
  refine W_ret ?_
  exact ⟨[.slice (some ⟨g2, 0, none⟩) res.length c2], (.tmp (by rfl) rfl), some ⟨g2, 0, none⟩, c2, cs5, rfl, (H.pickL [1] (by decide)).pick [2]⟩
 ·-- there is room
  have hroom : a0.length + 1 ≤ c := by have := of_decide_eq_false hb2; omega
  have hA0 : slA (some ⟨g, 0, none⟩) c 0 k_Handle.sz = some ⟨g, 0, none⟩ := (H.rowA0 (i := 0) (by rfl)).symm
  have hAi : slA (some ⟨g, 0, none⟩) c (i + 1) k_Handle.sz = some ⟨g, (i + 1) * k_Handle.sz, none⟩ := by simp [slA, show c ≠ i + 1 by omega, add_plain]
  obtain ⟨y1, hy1⟩ : ∃ y1, a0.take (i + 1) ++ a0.drop i = y1 := ⟨_, rfl⟩
  have hy1l : y1.length = a0.length + 1 := by subst hy1; simp; omega
  have hy2 : cpyV y1 i (a0.length + 1 - i) [x] = res := by rw [← hy1, ins_room hin (by omega), hres]
  obtain ⟨cur, hg, hcl, _, _, _⟩ := H.rowRaw (i := 0) (by rfl)
  have hh : (RE.heap vb (obH x)).rel w (okS ok w0 _) := H.rds 1 _ (by rfl)
  have hne : vb ≠ g := fun he => hh.2.1 (by simp [blks, Ent.blks, Value.ownBlock, he])
  have hcur : cur ≠ [] := by
   intro he
   rw [he] at hcl
   have hk2 : k_Handle.sz = 2 := rfl
   rw [hk2] at hcl
   simp at hcl; omega
  refine W_skip ?_
  refine W_seq ?_
  refine W_region ?_
  refine RL_pure (by exact wn0 rfl) (by rfl) (by rfl) (x_move (v := .slice (some ⟨g, 0, none⟩) a0.length c) (by rfl)) ?_
  refine RL_pure (by exact wn0 rfl) (by rfl) (by rfl) (x_move (v := .int .i64 (a0.length : Int)) (by rfl)) ?_
  refine RL_pure (by exact wn0 rfl) (by rfl) (by rfl) (x_move (v := .int .i64 1) (by rfl)) ?_
  refine RL_pure (by exact wn0 rfl) (by rfl) (by rfl) (x_add (by rfl) (by rfl) hn1) ?_
  refine RL_pure (by exact wn0 rfl) (by rfl) (by rfl) (x_slice_hi (sz := k_Handle.sz) (A := some ⟨g, 0, none⟩) (n := a0.length) (c := c) (k := .i64) (j := ((a0.length + 1 : Nat) : Int)) sl87 sz81 (by rfl) (by rfl) (by omega) (by omega)) ?_
  rw [hA0]
  refine RL_pure (by exact wn0 rfl) (by rfl) (by rfl) (x_assign (v := .slice (some ⟨g, 0, none⟩) (a0.length + 1) c) (by rfl)) ?_
  refine RL_nil ?_
  refine W_seq ?_
  refine W_seq ?_
  refine W_region ?_
  refine RL_pure (by exact wn0 rfl) (by rfl) (by rfl) (x_move (v := .slice (some ⟨vb, 0, none⟩) 1 1) (by rfl)) ?_
  refine RL_pure (by exact wn0 rfl) (by rfl) (by rfl) (x_move (v := .slice (some ⟨g, 0, none⟩) (a0.length + 1) c) (by rfl)) ?_
  refine RL_pure (by exact wn0 rfl) (by rfl) (by rfl) (x_move (v := .int .i64 (i : Int)) (by rfl)) ?_
  refine RL_pure (by exact wn0 rfl) (by rfl) (by rfl) (x_move (v := .int .i64 1) (by rfl)) ?_
  refine RL_pure (by exact wn0 rfl) (by rfl) (by rfl) (x_add (by rfl) (by rfl) hi1) ?_
  refine RL_pure (by exact wn0 rfl) (by rfl) (by rfl) (x_slice_lo (sz := k_Handle.sz) (A := some ⟨g, 0, none⟩) (n := a0.length + 1) (c := c) (k := .i64) (j := ((i + 1 : Nat) : Int)) sl87 sz81 (by rfl) (by rfl) (by omega) (by omega)) ?_
  rw [Int.toNat_natCast (i + 1), hAi]
  refine RL_pure (by exact wn0 rfl) (by rfl) (by rfl) (x_callV (by rfl) (args := [.slice (some ⟨vb, 0, none⟩) 1 1, .slice (some ⟨g, (i + 1) * k_Handle.sz, none⟩) (a0.length + 1 - (i + 1)) (c - (i + 1))]) (by rfl) (ov118 (c := 0) hh.1 hg hne hcur)) ?_
  refine RL_pure (by exact wn0 rfl) (by rfl) (by rfl) (x_not (by rfl)) ?_
  refine RL_nil ?_
  refine W_cond (by rfl) (fun hb3 => ?_) (fun hb3 => ?_)
  rotate_left
  ·exact absurd hb3 (by decide)
  refine W_seq ?_
  refine W_draw [.free 0, .free 1, .free 2, .free 3, .free 4, .free 5, .free 6, .free 7, .tail 8] (fun wS => Sep ok w0 wS [.row (.slice (some ⟨g, 0, none⟩) a0.length c) 81 k_Handle.sz a0.length cs] [RE.chunks k_Handle cs a0, RE.heap vb (obH x)]) [8] [0, 1, 2, 3, 4, 5, 6, 7] mixed0 (by kernel_rfl) (by kernel_rfl) (by kernel_rfl) (by rfl) (by exact H.drew) ?_
  obtain ⟨w4, hW⟩ : ∃ W : World, W = { w with drawn := w.drawn + 1 } := ⟨_, rfl⟩
  rw [← hW]
  have H : Sep ok w0 w4 [.row (.slice (some ⟨g, 0, none⟩) a0.length c) 81 k_Handle.sz a0.length cs] [RE.chunks k_Handle cs a0, RE.heap vb (obH x)] := by rw [hW]; exact H.drew
  clear hW
  refine PR_free (by rfl) (by rfl) (by rfl) (by exact wn0 rfl) (fun wS => (x_move (v := .slice (some ⟨g, 0, none⟩) (a0.length + 1) c) (by rfl))) ?_
  refine PR_free (by rfl) (by rfl) (by rfl) (by exact wn0 rfl) (fun wS => (x_move (v := .int .i64 (i : Int)) (by rfl))) ?_
  refine PR_free (by rfl) (by rfl) (by rfl) (by exact wn0 rfl) (fun wS => (x_move (v := .int .i64 1) (by rfl))) ?_
  refine PR_free (by rfl) (by rfl) (by rfl) (by exact wn0 rfl) (fun wS => (x_add (by rfl) (by rfl) hi1)) ?_
  refine PR_free (by rfl) (by rfl) (by rfl) (by exact wn0 rfl) (fun wS => (x_slice_lo (sz := k_Handle.sz) (A := some ⟨g, 0, none⟩) (n := a0.length + 1) (c := c) (k := .i64) (j := ((i + 1 : Nat) : Int)) sl87 sz81 (by rfl) (by rfl) (by omega) (by omega))) ?_
  refine PR_free (by rfl) (by rfl) (by rfl) (by exact wn0 rfl) (fun wS => (x_move (v := .slice (some ⟨g, 0, none⟩) (a0.length + 1) c) (by rfl))) ?_
  refine PR_free (by rfl) (by rfl) (by rfl) (by exact wn0 rfl) (fun wS => (x_move (v := .int .i64 (i : Int)) (by rfl))) ?_
  refine PR_free (by rfl) (by rfl) (by rfl) (by exact wn0 rfl) (fun wS => (x_slice_lo (sz := k_Handle.sz) (A := some ⟨g, 0, none⟩) (n := a0.length + 1) (c := c) (k := .i64) (j := (i : Int)) sl87 sz81 (by rfl) (by rfl) (by omega) (by omega))) ?_
  refine PR_tail (by rfl) (O_copyShift (D := k_Handle) (i := 0) (j := 0) (xs := a0) (A := some ⟨g, 0, none⟩) (lo := i) (by exact wn0 rfl) (by rfl) (by rfl) rfl (by simp only [Int.toNat_natCast]; omega) (by rfl) rfl rfl H (by rfl) (by rfl) hin hroom sl87 sz81 hy1 (fun v5 w5 cs5 (H : Sep ok w0 w5 [.row (.slice (some ⟨g, 0, none⟩) y1.length c) 81 k_Handle.sz y1.length cs5] [RE.chunks k_Handle cs5 y1, RE.heap vb (obH x)]) => ?_))
  refine PR_nil ?_
  refine W_seq ?_
  refine W_region ?_
  refine RL_pure (by exact wn0 rfl) (by rfl) (by rfl) (x_move (v := .slice (some ⟨g, 0, none⟩) (a0.length + 1) c) (by rfl)) ?_
  refine RL_pure (by exact wn0 rfl) (by rfl) (by rfl) (x_move (v := .int .i64 (i : Int)) (by rfl)) ?_
  refine RL_pure (by exact wn0 rfl) (by rfl) (by rfl) (x_slice_lo (sz := k_Handle.sz) (A := some ⟨g, 0, none⟩) (n := a0.length + 1) (c := c) (k := .i64) (j := (i : Int)) sl87 sz81 (by rfl) (by rfl) (by omega) (by omega)) ?_
  refine RL_pure (by exact wn0 rfl) (by rfl) (by rfl) (x_move (v := .slice (some ⟨vb, 0, none⟩) 1 1) (by rfl)) ?_
  refine RL_cons (O_copy (D := k_Handle) (i := 0) (j := 0) (xs := y1) (A := some ⟨g, 0, none⟩) (lo := i) (dn := a0.length + 1 - i) (zs := [x]) (by exact wn0 rfl) (by rfl) (by rfl) (by rfl) (by rfl) (by rfl) H (by rfl) (by rfl) (by omega) (hvR (q := 1) H (by rfl)).src sl87 sz81 hy2 (fun w6 cs6 (H : Sep ok w0 w6 [.row (.slice (some ⟨g, 0, none⟩) res.length c) 81 k_Handle.sz res.length cs6] [RE.chunks k_Handle cs6 res, RE.heap vb (obH x)]) => ?_))
  refine RL_nil ?_
  refine W_seq ?_
  refine W_region ?_
  refine RL_pure (by exact wn0 rfl) (by rfl) (by rfl) (x_move (v := .slice (some ⟨g, 0, none⟩) res.length c) (by rw [hrl]; rfl)) ?_
  refine RL_pure (by exact wn0 rfl) (by rfl) (by rfl) (x_assign (v := .slice (some ⟨g, 0, none⟩) res.length c) (by rfl)) ?_
  refine RL_nil ?_
  refine W_ret ?_
  exact ⟨[.slice (some ⟨g, 0, none⟩) res.length c], (.tmp (by rfl) rfl), some ⟨g, 0, none⟩, c, cs6, rfl, H.pick [0]⟩
end Go.Proofs.YtobkigllalbkiaaV.M

/- A plain Lean function that answers as the Go function does (none: not told), and the proof that a call answers so. Written by program. -/
set_option linter.unusedVariables false
namespace Go.Proofs.YtobkigllalbkiaaV.M
open Go.RowKit Go.Proofs.YtobkigllalbkiaaV
/-- Link, behind its call of Twin -/
def tl38 (K : Nat) (a0 : S_Graph) (a1 : S_Handle) (a2 : S_Handle) (a3 : Int) : Option (S_Graph × Int) :=
 (m53 K a0).bind fun v => idx v.Kids a1.Slot fun l => if 0 ≤ a3 ∧ a3 ≤ (l.length : Int) ∧ (l.length + 1) * 16 ≤ 140737488355328 then some ((⟨v.Arena, v.Kids.set a1.Slot.toNat (l.take a3.toNat ++ a2 :: l.drop a3.toNat)⟩ : S_Graph), 0) else none
def m38_j1 (K : Nat) (a0 : S_Graph) (a1 : S_Handle) (a2 : S_Handle) (a3 : Int) (el27 : (List S_Handle)) (y27_1 : Bool) : Option (S_Graph × Int) :=
 (bif y27_1 then some ((⟨(⟨[]⟩ : S_Arena), []⟩ : S_Graph), 2) else (bif ((el27.length : Int) == 16) then some ((⟨(⟨[]⟩ : S_Arena), []⟩ : S_Graph), 9) else ((m80 K a0 a2 a1).bind fun v53 => (bif v53 then some ((⟨(⟨[]⟩ : S_Arena), []⟩ : S_Graph), 60) else (tl38 K a0 a1 a2 a3)))))
/-- diorama/nodes.Link -/
def m38 (K : Nat) (a0 : S_Graph) (a1 : S_Handle) (a2 : S_Handle) (a3 : Int) : Option (S_Graph × Int) :=
 ((m79 K a0 ([a1, a2])).bind fun v22 => (bif (v22 != 0) then some ((⟨(⟨[]⟩ : S_Arena), []⟩ : S_Graph), v22) else (idx a0.Kids a1.Slot fun el27 => (bif (decide (a3 < 0)) then (m38_j1 K a0 a1 a2 a3 el27 (decide (a3 < 0))) else (m38_j1 K a0 a1 a2 a3 el27 (decide ((el27.length : Int) < a3)))))))
set_option maxRecDepth 100000 in
set_option maxHeartbeats 4000000 in
theorem c38n (ok : Okp) (hno : ∀ k, ¬ ok.wr k) (K : Nat) (w : World) (a0 : S_Graph) (A1 : Option Addr) (cp2 : Nat) (A5 : Option Addr) (cp6 : Nat) (a1 : S_Handle) (a2 : S_Handle) (a3 : Int) (hR3 : Rd k_Slot w ok A1 cp2 a0.Arena.Slots) (hR7 : Rd (Kd.slice k_Handle) w ok A5 cp6 a0.Kids) (res : S_Graph × Int) (hm : m38 K a0 a1 a2 a3 = some res) :
  Calls Try.prog 38 #[.agg #[.slice A1 a0.Arena.Slots.length cp2, .slice A5 a0.Kids.length cp6], .agg #[.int .i64 a1.Slot, .int .i64 a1.Gen], .agg #[.int .i64 a2.Slot, .int .i64 a2.Gen], .int .i64 a3] w (fun e w' => ∃ (A0_ : Option Addr) (c0_ : Nat), ∃ (A1_ : Option Addr) (c1_ : Nat), e = .returned (tup [.agg #[.slice A0_ res.1.Arena.Slots.length c0_, .slice A1_ res.1.Kids.length c1_], .int .i64 res.2]) ∧ Sep ok w w' [] [FRS w A0_ c0_ res.1, FRK w A1_ c1_ res.1]) := by
 refine calls_W (args := [.agg #[.slice A1 a0.Arena.Slots.length cp2, .slice A5 a0.Kids.length cp6], .agg #[.int .i64 a1.Slot, .int .i64 a1.Gen], .agg #[.int .i64 a2.Slot, .int .i64 a2.Gen], .int .i64 a3]) Try.func38 rfl Try.ntmps38 Try.results38 rfl fun r hr => ?_
 obtain ⟨r1, rfl⟩ := regen (r := r) [(0, .agg #[.slice A1 a0.Arena.Slots.length cp2, .slice A5 a0.Kids.length cp6]), (1, .agg #[.int .i64 a1.Slot, .int .i64 a1.Gen]), (2, .agg #[.int .i64 a2.Slot, .int .i64 a2.Gen]), (3, .int .i64 a3)] ⟨hr 0 _ rfl, hr 1 _ rfl, hr 2 _ rfl, hr 3 _ rfl, trivial⟩
 have H : Sep ok w w [] [RDS A1 cp2 a0, RDK A5 cp6 a0] := Sep.arg (Sep.arg (Sep.start ok w) (re := RE.rd k_Slot A1 cp2 a0.Arena.Slots) rfl rfl hR3) (re := RE.rd (Kd.slice k_Handle) A5 cp6 a0.Kids) rfl rfl hR7
 unfold m38 at hm
 refine W_seq ?_
 refine W_region ?_
 refine RL_cons (O_box (by exact wn0 rfl) (by rfl) (by rfl) (by rfl) H (fun w10 b9 (H : Sep ok w w10 [GRB b9 A1 cp2 A5 cp6 a0] [RDS A1 cp2 a0, RDK A5 cp6 a0]) => ?_))
 refine RL_cons (O_box (by exact wn0 rfl) (by rfl) (by rfl) (by rfl) H (fun w12 b11 (H : Sep ok w w12 [GRB b9 A1 cp2 A5 cp6 a0, HNB b11 a1] [RDS A1 cp2 a0, RDK A5 cp6 a0]) => ?_))
 refine RL_cons (O_box (by exact wn0 rfl) (by rfl) (by rfl) (by rfl) H (fun w14 b13 (H : Sep ok w w14 [GRB b9 A1 cp2 A5 cp6 a0, HNB b11 a1, HNB b13 a2] [RDS A1 cp2 a0, RDK A5 cp6 a0]) => ?_))
 refine RL_cons (O_alloc (by exact wn0 rfl) (by rfl) ze79 (by rfl) H (fun w16 b15 (H : Sep ok w w16 [GRB b9 A1 cp2 A5 cp6 a0, HNB b11 a1, HNB b13 a2, .blk b15 79 [.slice none 0 0, .slice none 0 0]] [RDS A1 cp2 a0, RDK A5 cp6 a0]) => ?_))
 refine RL_p (x_assign (v := .int .i64 0) (by rfl)) ?_
 refine RL_nil ?_
 refine W_seq ?_
 refine W_seq ?_
 refine W_region ?_
 refine RL_p (x_loadA (j := 0) (vs := [.slice A1 a0.Arena.Slots.length cp2, .slice A5 a0.Kids.length cp6]) ag79 (by rfl) (H.cells (i := 0) (by rfl)) (by rfl) (by rfl)) ?_
 refine RL_p (x_loadA (j := 0) (vs := [.int .i64 a1.Slot, .int .i64 a1.Gen]) ag81 (by rfl) (H.cells (i := 1) (by rfl)) (by rfl) (by rfl)) ?_
 refine RL_p (x_loadA (j := 0) (vs := [.int .i64 a2.Slot, .int .i64 a2.Gen]) ag81 (by rfl) (H.cells (i := 2) (by rfl)) (by rfl) (by rfl)) ?_
 refine RL_cons (O_buildSlice (vs := [(0, .agg #[.int .i64 a1.Slot, .int .i64 a1.Gen]), (1, .agg #[.int .i64 a2.Slot, .int .i64 a2.Gen])]) (cs := [.int .i64 a1.Slot, .int .i64 a1.Gen, .int .i64 a2.Slot, .int .i64 a2.Gen]) (by exact wn0 rfl) (by rfl) sl87 sz81 ze81 (by rfl) (by rfl) (by rfl) (by kernel_rfl) H (fun w18 b17 (H : Sep ok w w18 [GRB b9 A1 cp2 A5 cp6 a0, HNB b11 a1, HNB b13 a2, .blk b15 79 [.slice none 0 0, .slice none 0 0], .blk b17 81 [.int .i64 a1.Slot, .int .i64 a1.Gen, .int .i64 a2.Slot, .int .i64 a2.Gen]] [RDS A1 cp2 a0, RDK A5 cp6 a0]) => ?_))
 have H : Sep ok w w18 [GRB b9 A1 cp2 A5 cp6 a0, HNB b11 a1, HNB b13 a2, .blk b15 79 [.slice none 0 0, .slice none 0 0], .row (.slice (some ⟨b17, 0, none⟩) ([a1, a2]).length 2) 81 k_Handle.sz ([a1, a2]).length [.int .i64 a1.Slot, .int .i64 a1.Gen, .int .i64 a2.Slot, .int .i64 a2.Gen]] [RDS A1 cp2 a0, RDK A5 cp6 a0, RE.chunks k_Handle [.int .i64 a1.Slot, .int .i64 a1.Gen, .int .i64 a2.Slot, .int .i64 a2.Gen] ([a1, a2])] := H.rowOf (i := 4) (D := k_Handle) (xs := [a1, a2]) (by rfl) (by exact ⟨rfl, rfl, rfl⟩) (by rfl)
 obtain ⟨v22, hv21, hm⟩ := bind_some hm
 refine RL_cons (O_call (by exact wn0 rfl) (by rfl) (by rfl) (x_callL (by rfl) (args := [.agg #[.slice A1 a0.Arena.Slots.length cp2, .slice A5 a0.Kids.length cp6], .slice (some ⟨b17, 0, none⟩) ([a1, a2]).length 2]) (by rfl) (cf79 _ _)) (c79 okT K w18 a0 A1 cp2 A5 cp6 ([a1, a2]) (some ⟨b17, 0, none⟩) 2 (H.rd (i := 0) (by rfl)).any (H.rd (i := 1) (by rfl)).any (H.rowRd (i := 4) (j := 2) (by rfl) (by rfl)) v22 hv21) ?_)
 rintro e w23 ⟨rfl, H2⟩
 have H : Sep ok w w23 [GRB b9 A1 cp2 A5 cp6 a0, HNB b11 a1, HNB b13 a2, .blk b15 79 [.slice none 0 0, .slice none 0 0], .row (.slice (some ⟨b17, 0, none⟩) ([a1, a2]).length 2) 81 k_Handle.sz ([a1, a2]).length [.int .i64 a1.Slot, .int .i64 a1.Gen, .int .i64 a2.Slot, .int .i64 a2.Gen]] [RDS A1 cp2 a0, RDK A5 cp6 a0, RE.chunks k_Handle [.int .i64 a1.Slot, .int .i64 a1.Gen, .int .i64 a2.Slot, .int .i64 a2.Gen] ([a1, a2])] := H.below H2.base
 clear H2
 refine ⟨_, rfl, ?_⟩
 show RL _ _ _ _ _ _ _
 refine RL_p (x_assign (v := .int .i64 v22) (by rfl)) ?_
 refine RL_nil ?_
 refine W_seq ?_
 refine W_region ?_
 refine RL_p (x_move (v := .int .i64 v22) (by rfl)) ?_
 refine RL_p (x_neq (by rfl) (by rfl)) ?_
 refine RL_nil ?_
 refine W_cond (by rfl) (fun hb => ?_) (fun hb => ?_)
 ·have hm := cond_t hb hm
  refine W_seq ?_
  refine W_region ?_
  refine RL_p (x_build (vs := []) (cs := [.slice none 0 0, .slice none 0 0]) (by rfl) (by kernel_rfl)) ?_
  refine RL_p (x_move (v := .int .i64 v22) (by rfl)) ?_
  refine RL_cons (O_store (i := 3) (off := 0) (by exact wn0 rfl) (by rfl) (by rfl) H (by rfl) (vs := [.slice none 0 0, .slice none 0 0]) (by rfl) sz79 (by rfl) (by rfl) (by rfl) (fun w24 (H : Sep ok w w24 [GRB b9 A1 cp2 A5 cp6 a0, HNB b11 a1, HNB b13 a2, .blk b15 79 [.slice none 0 0, .slice none 0 0], .row (.slice (some ⟨b17, 0, none⟩) ([a1, a2]).length 2) 81 k_Handle.sz ([a1, a2]).length [.int .i64 a1.Slot, .int .i64 a1.Gen, .int .i64 a2.Slot, .int .i64 a2.Gen]] [RDS A1 cp2 a0, RDK A5 cp6 a0, RE.chunks k_Handle [.int .i64 a1.Slot, .int .i64 a1.Gen, .int .i64 a2.Slot, .int .i64 a2.Gen] ([a1, a2])]) => ?_))
  refine RL_p (x_assign (v := .int .i64 v22) (by rfl)) ?_
  refine RL_nil ?_
  refine W_ret ?_
  have H : Sep ok w w24 [GRB b9 A1 cp2 A5 cp6 a0, HNB b11 a1, HNB b13 a2, .blk b15 79 [.slice none 0 0, .slice none 0 0], .row (.slice (some ⟨b17, 0, none⟩) ([a1, a2]).length 2) 81 k_Handle.sz ([a1, a2]).length [.int .i64 a1.Slot, .int .i64 a1.Gen, .int .i64 a2.Slot, .int .i64 a2.Gen]] [RDS A1 cp2 a0, RDK A5 cp6 a0, RE.chunks k_Handle [.int .i64 a1.Slot, .int .i64 a1.Gen, .int .i64 a2.Slot, .int .i64 a2.Gen] ([a1, a2]), RE.fr w.heap.size k_Slot none 0 ([])] := Sep.also H (re := RE.fr w.heap.size k_Slot none 0 ([])) (Rd.nil (by decide))
  have H : Sep ok w w24 [GRB b9 A1 cp2 A5 cp6 a0, HNB b11 a1, HNB b13 a2, .blk b15 79 [.slice none 0 0, .slice none 0 0], .row (.slice (some ⟨b17, 0, none⟩) ([a1, a2]).length 2) 81 k_Handle.sz ([a1, a2]).length [.int .i64 a1.Slot, .int .i64 a1.Gen, .int .i64 a2.Slot, .int .i64 a2.Gen]] [RDS A1 cp2 a0, RDK A5 cp6 a0, RE.chunks k_Handle [.int .i64 a1.Slot, .int .i64 a1.Gen, .int .i64 a2.Slot, .int .i64 a2.Gen] ([a1, a2]), RE.fr w.heap.size k_Slot none 0 ([]), RE.fr w.heap.size (Kd.slice k_Handle) none 0 ([])] := Sep.also H (re := RE.fr w.heap.size (Kd.slice k_Handle) none 0 ([])) (Rd.nil (by decide))
  obtain rfl := Option.some.inj hm
  exact ⟨[.agg #[.slice none 0 0, .slice none 0 0], .int .i64 v22], (.cellA (by rfl) ag79 (H.cells (i := 3) (by rfl)) (by rfl) (.tmp (by rfl) rfl)), none, 0, none, 0, rfl, (H.forgetAll).pick [3, 4]⟩
 ·have hm := cond_f hb hm
  refine W_skip ?_
  refine W_seq ?_
  refine W_region ?_
  refine RL_p (x_fieldAddr fo79_1 (by rfl)) ?_
  refine RL_p (x_load (j := 1) (v := .slice A5 a0.Kids.length cp6) sc77 (by rfl) (H.cells (i := 0) (by rfl)) (by rfl)) ?_
  refine RL_p (x_fieldAddr fo81_0 (by rfl)) ?_
  refine RL_p (x_load (j := 0) (v := .int .i64 a1.Slot) sc3 (by rfl) (H.cells (i := 1) (by rfl)) (by rfl)) ?_
  obtain ⟨el27, h28, h29, he30, hm⟩ := idx_some hm
  obtain ⟨g32, o33, hA31⟩ := (H.rd (i := 1) (by rfl)).addr he30
  obtain ⟨cs34, hk35, hat36, hg_cs34⟩ := (H.rd (i := 1) (by rfl)).openAt hA31 he30
  obtain ⟨A39, cp40, rfl, hR42⟩ := hk35
  have H : Sep ok w w23 [GRB b9 A1 cp2 A5 cp6 a0, HNB b11 a1, HNB b13 a2, .blk b15 79 [.slice none 0 0, .slice none 0 0], .row (.slice (some ⟨b17, 0, none⟩) ([a1, a2]).length 2) 81 k_Handle.sz ([a1, a2]).length [.int .i64 a1.Slot, .int .i64 a1.Gen, .int .i64 a2.Slot, .int .i64 a2.Gen]] [RDS A1 cp2 a0, RDK A5 cp6 a0, RE.chunks k_Handle [.int .i64 a1.Slot, .int .i64 a1.Gen, .int .i64 a2.Slot, .int .i64 a2.Gen] ([a1, a2]), RE.cells g32 (o33 + (a1.Slot).toNat * 1) [.slice A39 el27.length cp40]] := Sep.also H (re := RE.cells g32 (o33 + (a1.Slot).toNat * 1) [.slice A39 el27.length cp40]) ⟨hg_cs34, hat36⟩
  have H : Sep ok w w23 [GRB b9 A1 cp2 A5 cp6 a0, HNB b11 a1, HNB b13 a2, .blk b15 79 [.slice none 0 0, .slice none 0 0], .row (.slice (some ⟨b17, 0, none⟩) ([a1, a2]).length 2) 81 k_Handle.sz ([a1, a2]).length [.int .i64 a1.Slot, .int .i64 a1.Gen, .int .i64 a2.Slot, .int .i64 a2.Gen]] [RDS A1 cp2 a0, RDK A5 cp6 a0, RE.chunks k_Handle [.int .i64 a1.Slot, .int .i64 a1.Gen, .int .i64 a2.Slot, .int .i64 a2.Gen] ([a1, a2]), RE.cells g32 (o33 + (a1.Slot).toNat * 1) [.slice A39 el27.length cp40], RE.rd k_Handle A39 cp40 el27] := Sep.also H (re := RE.rd k_Handle A39 cp40 el27) hR42
  refine RL_p (x_indexAddr sl77 sz87 (by rfl) (by rfl) hA31 h28 h29) ?_
  refine RL_p (x_load (j := 0) (v := .slice A39 el27.length cp40) sc87 (by rfl) (H.cellsR (i := 3) (by rfl)) (by rfl)) ?_
  refine RL_p (x_assign (v := .slice A39 el27.length cp40) (by rfl)) ?_
  refine RL_nil ?_
  refine W_seq ?_
  refine W_block ?_
  refine W_join (fun r' w' => ∃ (y27_1 : Bool), m38_j1 K a0 a1 a2 a3 el27 y27_1 = some res ∧ Agr [(3, .int .i64 a3), (4, .pointer (some ⟨b9, 0, none⟩)), (5, .pointer (some ⟨b11, 0, none⟩)), (6, .pointer (some ⟨b13, 0, none⟩)), (8, .pointer (some ⟨b15, 0, none⟩)), (11, .slice A39 el27.length cp40), (27, .bool y27_1)] r' ∧ Sep ok w w' [GRB b9 A1 cp2 A5 cp6 a0, HNB b11 a1, HNB b13 a2, .blk b15 79 [.slice none 0 0, .slice none 0 0], .row (.slice (some ⟨b17, 0, none⟩) ([a1, a2]).length 2) 81 k_Handle.sz ([a1, a2]).length [.int .i64 a1.Slot, .int .i64 a1.Gen, .int .i64 a2.Slot, .int .i64 a2.Gen]] [RDS A1 cp2 a0, RDK A5 cp6 a0, RE.chunks k_Handle [.int .i64 a1.Slot, .int .i64 a1.Gen, .int .i64 a2.Slot, .int .i64 a2.Gen] ([a1, a2]), RE.cells g32 (o33 + (a1.Slot).toNat * 1) [.slice A39 el27.length cp40], RE.rd k_Handle A39 cp40 el27]) ?_ ?_
  ·show W _ _ _ _ _ _
   refine W_seq ?_
   refine W_region ?_
   refine RL_p (x_move (v := .int .i64 a3) (by rfl)) ?_
   refine RL_p (x_lss (by rfl) (by rfl)) ?_
   refine RL_p (x_assign (v := .bool (decide (a3 < 0))) (by rfl)) ?_
   refine RL_nil ?_
   refine W_cond (by rfl) (fun hb => ?_) (fun hb => ?_)
   ·have hm := cond_t hb hm
    refine W_skip ?_
    exact ⟨(decide (a3 < 0)), hm, ⟨rfl, rfl, rfl, rfl, rfl, rfl, rfl, trivial⟩, H⟩
   ·have hm := cond_f hb hm
    refine W_region ?_
    refine RL_p (x_move (v := .int .i64 a3) (by rfl)) ?_
    refine RL_p (x_move (v := .slice A39 el27.length cp40) (by rfl)) ?_
    refine RL_p (x_len sl87 (by rfl)) ?_
    refine RL_p (x_gtr (by rfl) (by rfl)) ?_
    refine RL_p (x_assign (v := .bool (decide ((el27.length : Int) < a3))) (by rfl)) ?_
    refine RL_nil ?_
    exact ⟨(decide ((el27.length : Int) < a3)), hm, ⟨rfl, rfl, rfl, rfl, rfl, rfl, rfl, trivial⟩, H⟩
  ·rintro r' w' ⟨y27_1, hm, hA, H⟩
   obtain ⟨r44, rfl⟩ := regen _ hA; clear hA
   obtain ⟨w45, rfl⟩ : ∃ W : World, W = w' := ⟨_, rfl⟩
   unfold m38_j1 at hm
   refine W_cond (by rfl) (fun hb => ?_) (fun hb => ?_)
   ·have hm := cond_t hb hm
    refine W_seq ?_
    refine W_region ?_
    refine RL_p (x_build (vs := []) (cs := [.slice none 0 0, .slice none 0 0]) (by rfl) (by kernel_rfl)) ?_
    refine RL_cons (O_store (i := 3) (off := 0) (by exact wn0 rfl) (by rfl) (by rfl) H (by rfl) (vs := [.slice none 0 0, .slice none 0 0]) (by rfl) sz79 (by rfl) (by rfl) (by rfl) (fun w46 (H : Sep ok w w46 [GRB b9 A1 cp2 A5 cp6 a0, HNB b11 a1, HNB b13 a2, .blk b15 79 [.slice none 0 0, .slice none 0 0], .row (.slice (some ⟨b17, 0, none⟩) ([a1, a2]).length 2) 81 k_Handle.sz ([a1, a2]).length [.int .i64 a1.Slot, .int .i64 a1.Gen, .int .i64 a2.Slot, .int .i64 a2.Gen]] [RDS A1 cp2 a0, RDK A5 cp6 a0, RE.chunks k_Handle [.int .i64 a1.Slot, .int .i64 a1.Gen, .int .i64 a2.Slot, .int .i64 a2.Gen] ([a1, a2]), RE.cells g32 (o33 + (a1.Slot).toNat * 1) [.slice A39 el27.length cp40], RE.rd k_Handle A39 cp40 el27]) => ?_))
    refine RL_p (x_assign (v := .int .i64 2) (by rfl)) ?_
    refine RL_nil ?_
    refine W_ret ?_
    have H : Sep ok w w46 [GRB b9 A1 cp2 A5 cp6 a0, HNB b11 a1, HNB b13 a2, .blk b15 79 [.slice none 0 0, .slice none 0 0], .row (.slice (some ⟨b17, 0, none⟩) ([a1, a2]).length 2) 81 k_Handle.sz ([a1, a2]).length [.int .i64 a1.Slot, .int .i64 a1.Gen, .int .i64 a2.Slot, .int .i64 a2.Gen]] [RDS A1 cp2 a0, RDK A5 cp6 a0, RE.chunks k_Handle [.int .i64 a1.Slot, .int .i64 a1.Gen, .int .i64 a2.Slot, .int .i64 a2.Gen] ([a1, a2]), RE.cells g32 (o33 + (a1.Slot).toNat * 1) [.slice A39 el27.length cp40], RE.rd k_Handle A39 cp40 el27, RE.fr w.heap.size k_Slot none 0 ([])] := Sep.also H (re := RE.fr w.heap.size k_Slot none 0 ([])) (Rd.nil (by decide))
    have H : Sep ok w w46 [GRB b9 A1 cp2 A5 cp6 a0, HNB b11 a1, HNB b13 a2, .blk b15 79 [.slice none 0 0, .slice none 0 0], .row (.slice (some ⟨b17, 0, none⟩) ([a1, a2]).length 2) 81 k_Handle.sz ([a1, a2]).length [.int .i64 a1.Slot, .int .i64 a1.Gen, .int .i64 a2.Slot, .int .i64 a2.Gen]] [RDS A1 cp2 a0, RDK A5 cp6 a0, RE.chunks k_Handle [.int .i64 a1.Slot, .int .i64 a1.Gen, .int .i64 a2.Slot, .int .i64 a2.Gen] ([a1, a2]), RE.cells g32 (o33 + (a1.Slot).toNat * 1) [.slice A39 el27.length cp40], RE.rd k_Handle A39 cp40 el27, RE.fr w.heap.size k_Slot none 0 ([]), RE.fr w.heap.size (Kd.slice k_Handle) none 0 ([])] := Sep.also H (re := RE.fr w.heap.size (Kd.slice k_Handle) none 0 ([])) (Rd.nil (by decide))
    obtain rfl := Option.some.inj hm
    exact ⟨[.agg #[.slice none 0 0, .slice none 0 0], .int .i64 2], (.cellA (by rfl) ag79 (H.cells (i := 3) (by rfl)) (by rfl) (.tmp (by rfl) rfl)), none, 0, none, 0, rfl, (H.forgetAll).pick [5, 6]⟩
   ·have hm := cond_f hb hm
    refine W_seq ?_
    refine W_region ?_
    refine RL_p (x_move (v := .slice A39 el27.length cp40) (by rfl)) ?_
    refine RL_p (x_len sl87 (by rfl)) ?_
    refine RL_p (x_eql (by rfl) (by rfl)) ?_
    refine RL_p (x_assign (v := .bool ((el27.length : Int) == 16)) (by rfl)) ?_
    refine RL_nil ?_
    refine W_cond (by rfl) (fun hb => ?_) (fun hb => ?_)
    ·have hm := cond_t hb hm
     refine W_seq ?_
     refine W_region ?_
     refine RL_p (x_build (vs := []) (cs := [.slice none 0 0, .slice none 0 0]) (by rfl) (by kernel_rfl)) ?_
     refine RL_cons (O_store (i := 3) (off := 0) (by exact wn0 rfl) (by rfl) (by rfl) H (by rfl) (vs := [.slice none 0 0, .slice none 0 0]) (by rfl) sz79 (by rfl) (by rfl) (by rfl) (fun w49 (H : Sep ok w w49 [GRB b9 A1 cp2 A5 cp6 a0, HNB b11 a1, HNB b13 a2, .blk b15 79 [.slice none 0 0, .slice none 0 0], .row (.slice (some ⟨b17, 0, none⟩) ([a1, a2]).length 2) 81 k_Handle.sz ([a1, a2]).length [.int .i64 a1.Slot, .int .i64 a1.Gen, .int .i64 a2.Slot, .int .i64 a2.Gen]] [RDS A1 cp2 a0, RDK A5 cp6 a0, RE.chunks k_Handle [.int .i64 a1.Slot, .int .i64 a1.Gen, .int .i64 a2.Slot, .int .i64 a2.Gen] ([a1, a2]), RE.cells g32 (o33 + (a1.Slot).toNat * 1) [.slice A39 el27.length cp40], RE.rd k_Handle A39 cp40 el27]) => ?_))
     refine RL_p (x_assign (v := .int .i64 9) (by rfl)) ?_
     refine RL_nil ?_
     refine W_ret ?_
     have H : Sep ok w w49 [GRB b9 A1 cp2 A5 cp6 a0, HNB b11 a1, HNB b13 a2, .blk b15 79 [.slice none 0 0, .slice none 0 0], .row (.slice (some ⟨b17, 0, none⟩) ([a1, a2]).length 2) 81 k_Handle.sz ([a1, a2]).length [.int .i64 a1.Slot, .int .i64 a1.Gen, .int .i64 a2.Slot, .int .i64 a2.Gen]] [RDS A1 cp2 a0, RDK A5 cp6 a0, RE.chunks k_Handle [.int .i64 a1.Slot, .int .i64 a1.Gen, .int .i64 a2.Slot, .int .i64 a2.Gen] ([a1, a2]), RE.cells g32 (o33 + (a1.Slot).toNat * 1) [.slice A39 el27.length cp40], RE.rd k_Handle A39 cp40 el27, RE.fr w.heap.size k_Slot none 0 ([])] := Sep.also H (re := RE.fr w.heap.size k_Slot none 0 ([])) (Rd.nil (by decide))
     have H : Sep ok w w49 [GRB b9 A1 cp2 A5 cp6 a0, HNB b11 a1, HNB b13 a2, .blk b15 79 [.slice none 0 0, .slice none 0 0], .row (.slice (some ⟨b17, 0, none⟩) ([a1, a2]).length 2) 81 k_Handle.sz ([a1, a2]).length [.int .i64 a1.Slot, .int .i64 a1.Gen, .int .i64 a2.Slot, .int .i64 a2.Gen]] [RDS A1 cp2 a0, RDK A5 cp6 a0, RE.chunks k_Handle [.int .i64 a1.Slot, .int .i64 a1.Gen, .int .i64 a2.Slot, .int .i64 a2.Gen] ([a1, a2]), RE.cells g32 (o33 + (a1.Slot).toNat * 1) [.slice A39 el27.length cp40], RE.rd k_Handle A39 cp40 el27, RE.fr w.heap.size k_Slot none 0 ([]), RE.fr w.heap.size (Kd.slice k_Handle) none 0 ([])] := Sep.also H (re := RE.fr w.heap.size (Kd.slice k_Handle) none 0 ([])) (Rd.nil (by decide))
     obtain rfl := Option.some.inj hm
     exact ⟨[.agg #[.slice none 0 0, .slice none 0 0], .int .i64 9], (.cellA (by rfl) ag79 (H.cells (i := 3) (by rfl)) (by rfl) (.tmp (by rfl) rfl)), none, 0, none, 0, rfl, (H.forgetAll).pick [5, 6]⟩
    ·have hm := cond_f hb hm
     refine W_seq ?_
     refine W_region ?_
     refine RL_p (x_loadA (j := 0) (vs := [.slice A1 a0.Arena.Slots.length cp2, .slice A5 a0.Kids.length cp6]) ag79 (by rfl) (H.cells (i := 0) (by rfl)) (by rfl) (by rfl)) ?_
     refine RL_p (x_loadA (j := 0) (vs := [.int .i64 a2.Slot, .int .i64 a2.Gen]) ag81 (by rfl) (H.cells (i := 2) (by rfl)) (by rfl) (by rfl)) ?_
     refine RL_p (x_loadA (j := 0) (vs := [.int .i64 a1.Slot, .int .i64 a1.Gen]) ag81 (by rfl) (H.cells (i := 1) (by rfl)) (by rfl) (by rfl)) ?_
     obtain ⟨v53, hv52, hm⟩ := bind_some hm
     refine RL_cons (O_call (by exact wn0 rfl) (by rfl) (by rfl) (x_callL (by rfl) (args := [.agg #[.slice A1 a0.Arena.Slots.length cp2, .slice A5 a0.Kids.length cp6], .agg #[.int .i64 a2.Slot, .int .i64 a2.Gen], .agg #[.int .i64 a1.Slot, .int .i64 a1.Gen]]) (by rfl) (cf80 _ _)) (c80 okT K w45 a0 A1 cp2 A5 cp6 a2 a1 (H.rd (i := 0) (by rfl)).any (H.rd (i := 1) (by rfl)).any v53 hv52) ?_)
     rintro e w54 ⟨rfl, H2⟩
     have H : Sep ok w w54 [GRB b9 A1 cp2 A5 cp6 a0, HNB b11 a1, HNB b13 a2, .blk b15 79 [.slice none 0 0, .slice none 0 0], .row (.slice (some ⟨b17, 0, none⟩) ([a1, a2]).length 2) 81 k_Handle.sz ([a1, a2]).length [.int .i64 a1.Slot, .int .i64 a1.Gen, .int .i64 a2.Slot, .int .i64 a2.Gen]] [RDS A1 cp2 a0, RDK A5 cp6 a0, RE.chunks k_Handle [.int .i64 a1.Slot, .int .i64 a1.Gen, .int .i64 a2.Slot, .int .i64 a2.Gen] ([a1, a2]), RE.cells g32 (o33 + (a1.Slot).toNat * 1) [.slice A39 el27.length cp40], RE.rd k_Handle A39 cp40 el27] := H.below H2.base
     clear H2
     refine ⟨_, rfl, ?_⟩
     show RL _ _ _ _ _ _ _
     refine RL_p (x_assign (v := .bool v53) (by rfl)) ?_
     refine RL_nil ?_
     refine W_cond (by rfl) (fun hb => ?_) (fun hb => ?_)
     ·have hm := cond_t hb hm
      refine W_seq ?_
      refine W_region ?_
      refine RL_p (x_build (vs := []) (cs := [.slice none 0 0, .slice none 0 0]) (by rfl) (by kernel_rfl)) ?_
      refine RL_cons (O_store (i := 3) (off := 0) (by exact wn0 rfl) (by rfl) (by rfl) H (by rfl) (vs := [.slice none 0 0, .slice none 0 0]) (by rfl) sz79 (by rfl) (by rfl) (by rfl) (fun w55 (H : Sep ok w w55 [GRB b9 A1 cp2 A5 cp6 a0, HNB b11 a1, HNB b13 a2, .blk b15 79 [.slice none 0 0, .slice none 0 0], .row (.slice (some ⟨b17, 0, none⟩) ([a1, a2]).length 2) 81 k_Handle.sz ([a1, a2]).length [.int .i64 a1.Slot, .int .i64 a1.Gen, .int .i64 a2.Slot, .int .i64 a2.Gen]] [RDS A1 cp2 a0, RDK A5 cp6 a0, RE.chunks k_Handle [.int .i64 a1.Slot, .int .i64 a1.Gen, .int .i64 a2.Slot, .int .i64 a2.Gen] ([a1, a2]), RE.cells g32 (o33 + (a1.Slot).toNat * 1) [.slice A39 el27.length cp40], RE.rd k_Handle A39 cp40 el27]) => ?_))
      refine RL_p (x_assign (v := .int .i64 60) (by rfl)) ?_
      refine RL_nil ?_
      refine W_ret ?_
      have H : Sep ok w w55 [GRB b9 A1 cp2 A5 cp6 a0, HNB b11 a1, HNB b13 a2, .blk b15 79 [.slice none 0 0, .slice none 0 0], .row (.slice (some ⟨b17, 0, none⟩) ([a1, a2]).length 2) 81 k_Handle.sz ([a1, a2]).length [.int .i64 a1.Slot, .int .i64 a1.Gen, .int .i64 a2.Slot, .int .i64 a2.Gen]] [RDS A1 cp2 a0, RDK A5 cp6 a0, RE.chunks k_Handle [.int .i64 a1.Slot, .int .i64 a1.Gen, .int .i64 a2.Slot, .int .i64 a2.Gen] ([a1, a2]), RE.cells g32 (o33 + (a1.Slot).toNat * 1) [.slice A39 el27.length cp40], RE.rd k_Handle A39 cp40 el27, RE.fr w.heap.size k_Slot none 0 ([])] := Sep.also H (re := RE.fr w.heap.size k_Slot none 0 ([])) (Rd.nil (by decide))
      have H : Sep ok w w55 [GRB b9 A1 cp2 A5 cp6 a0, HNB b11 a1, HNB b13 a2, .blk b15 79 [.slice none 0 0, .slice none 0 0], .row (.slice (some ⟨b17, 0, none⟩) ([a1, a2]).length 2) 81 k_Handle.sz ([a1, a2]).length [.int .i64 a1.Slot, .int .i64 a1.Gen, .int .i64 a2.Slot, .int .i64 a2.Gen]] [RDS A1 cp2 a0, RDK A5 cp6 a0, RE.chunks k_Handle [.int .i64 a1.Slot, .int .i64 a1.Gen, .int .i64 a2.Slot, .int .i64 a2.Gen] ([a1, a2]), RE.cells g32 (o33 + (a1.Slot).toNat * 1) [.slice A39 el27.length cp40], RE.rd k_Handle A39 cp40 el27, RE.fr w.heap.size k_Slot none 0 ([]), RE.fr w.heap.size (Kd.slice k_Handle) none 0 ([])] := Sep.also H (re := RE.fr w.heap.size (Kd.slice k_Handle) none 0 ([])) (Rd.nil (by decide))
      obtain rfl := Option.some.inj hm
      exact ⟨[.agg #[.slice none 0 0, .slice none 0 0], .int .i64 60], (.cellA (by rfl) ag79 (H.cells (i := 3) (by rfl)) (by rfl) (.tmp (by rfl) rfl)), none, 0, none, 0, rfl, (H.forgetAll).pick [5, 6]⟩
     ·have hm := cond_f hb hm
      refine W_skip ?_
      refine W_seq ?_
      refine W_region ?_
      refine RL_p (x_loadA (j := 0) (vs := [.slice A1 a0.Arena.Slots.length cp2, .slice A5 a0.Kids.length cp6]) ag79 (by rfl) (H.cells (i := 0) (by rfl)) (by rfl) (by rfl)) ?_
      unfold tl38 at hm
      obtain ⟨v, hv, hm⟩ := bind_some hm
      have H : Sep ok w _ [GRB b9 A1 cp2 A5 cp6 a0, HNB b11 a1, HNB b13 a2, .blk b15 79 [.slice none 0 0, .slice none 0 0]] [RDS A1 cp2 a0, RDK A5 cp6 a0] := (H.takeL 4).pick [0, 1]
      refine RL_cons (O_call (by exact wn0 rfl) (by rfl) (by rfl) (x_callL (by rfl) (args := [.agg #[.slice A1 a0.Arena.Slots.length cp2, .slice A5 a0.Kids.length cp6]]) (by rfl) (cf53 _ _)) (c53x _ K _ a0 A1 cp2 A5 cp6 (H.rd (i := 0) (by rfl)) (H.rd (i := 1) (by rfl)) v hv) ?_)
      rintro e w2 ⟨A2, c2, s2, A3, c3, s3, ls, hls, rfl, H2⟩
      have H : Sep ok w w2 [GRB b9 A1 cp2 A5 cp6 a0, HNB b11 a1, HNB b13 a2, .blk b15 79 [.slice none 0 0, .slice none 0 0], .row (.slice A2 v.Arena.Slots.length c2) 96 k_Slot.sz v.Arena.Slots.length s2, .row (.slice A3 (ls.map Inn.hd).length c3) 87 kHd.sz (ls.map Inn.hd).length s3, rowsOf 81 k_Handle.sz ls] [RDS A1 cp2 a0, RDK A5 cp6 a0, RE.chunks k_Slot s2 v.Arena.Slots, RE.chunks kHd s3 (ls.map Inn.hd), RE.inns k_Handle ls] := H.call H2
      clear H2
      refine ⟨_, rfl, ?_⟩
      show RL _ _ _ _ _ _ _
      refine RL_cons (O_store (i := 0) (off := 0) (by exact wn0 rfl) (by rfl) (by rfl) H (by rfl) (vs := [.slice A2 v.Arena.Slots.length c2, .slice A3 (ls.map Inn.hd).length c3]) (by rfl) sz79 (by rfl) (by rfl) (by rfl) (fun w3 (H : Sep ok w w3 [.blk b9 79 [.slice A2 v.Arena.Slots.length c2, .slice A3 (ls.map Inn.hd).length c3], HNB b11 a1, HNB b13 a2, .blk b15 79 [.slice none 0 0, .slice none 0 0], .row (.slice A2 v.Arena.Slots.length c2) 96 k_Slot.sz v.Arena.Slots.length s2, .row (.slice A3 (ls.map Inn.hd).length c3) 87 kHd.sz (ls.map Inn.hd).length s3, rowsOf 81 k_Handle.sz ls] [RDS A1 cp2 a0, RDK A5 cp6 a0, RE.chunks k_Slot s2 v.Arena.Slots, RE.chunks kHd s3 (ls.map Inn.hd), RE.inns k_Handle ls]) => ?_))
      refine RL_nil ?_
      obtain ⟨el, h0, h1, he, hm⟩ := idx_some hm
      by_cases hrange : 0 ≤ a3 ∧ a3 ≤ (el.length : Int) ∧ (el.length + 1) * 16 ≤ 140737488355328
      rotate_left
      ·rw [if_neg hrange] at hm; cases hm
      rw [if_pos hrange] at hm
      obtain ⟨ha0, ha1, ha2⟩ := hrange
      obtain ⟨r, hr, hrx⟩ : ∃ r, ls[a1.Slot.toNat]? = some r ∧ r.xs = el := by
       rw [← hls, List.getElem?_map] at he
       cases hq : ls[a1.Slot.toNat]? with
       | none => rw [hq] at he; cases he
       | some r => rw [hq] at he; exact ⟨r, rfl, Option.some.inj he⟩
      subst hrx
      have hhd : (ls.map Inn.hd)[a1.Slot.toNat]? = some r.hd := by rw [List.getElem?_map, hr]; rfl
      have hlen : ls.length = v.Kids.length := by rw [← hls, List.length_map]
      have h1' : a1.Slot < ((ls.map Inn.hd).length : Int) := by rw [List.length_map, hlen]; exact h1
      obtain ⟨gi, _, hAi, _, _⟩ := H.rowIdx (i := 5) (j := 3) (by rfl) (by rfl) hhd
      have hrow : (Ent.row (.slice r.A r.xs.length r.c) 81 k_Handle.sz r.xs.length r.cs).ok w3 := rowsOf_ok.1 (H.ents 6 _ (by rfl)) r (List.mem_of_getElem? hr)
      have hxc : r.xs.length ≤ 9223372036854775807 := by
       rcases hrow.2 with ⟨_, h⟩ | ⟨_, _, _, _, _, _, h, hcm, _⟩
       ·omega
       ·simp only [maxLen] at hcm; omega
      refine W_seq ?_
      refine W_draw [.free 0, .take 1, .free 2, .take 3, .free 4, .take 5, .free 6, .take 7, .free 8, .take 9, .free 10, .take 11, .run 12, .run 13, .free 14, .tail 15] (fun wS => Sep ok w wS [.blk b9 79 [.slice A2 v.Arena.Slots.length c2, .slice A3 (ls.map Inn.hd).length c3], HNB b11 a1, HNB b13 a2, .blk b15 79 [.slice none 0 0, .slice none 0 0], .row (.slice A2 v.Arena.Slots.length c2) 96 k_Slot.sz v.Arena.Slots.length s2, .row (.slice A3 (ls.map Inn.hd).length c3) 87 kHd.sz (ls.map Inn.hd).length s3] [RDS A1 cp2 a0, RDK A5 cp6 a0, RE.chunks k_Slot s2 v.Arena.Slots, RE.chunks kHd s3 (ls.map Inn.hd)]) [15] [0, 2, 4, 6, 8, 10, 14] mixed0 (by kernel_rfl) (by kernel_rfl) (by kernel_rfl) (by rfl) (by exact (H.drew.takeL 6).takeR 4) ?_
      obtain ⟨w4, hW⟩ : ∃ W : World, W = { w3 with drawn := w3.drawn + 1 } := ⟨_, rfl⟩
      rw [← hW]
      have H : Sep ok w w4 [.blk b9 79 [.slice A2 v.Arena.Slots.length c2, .slice A3 (ls.map Inn.hd).length c3], HNB b11 a1, HNB b13 a2, .blk b15 79 [.slice none 0 0, .slice none 0 0], .row (.slice A2 v.Arena.Slots.length c2) 96 k_Slot.sz v.Arena.Slots.length s2, .row (.slice A3 (ls.map Inn.hd).length c3) 87 kHd.sz (ls.map Inn.hd).length s3, rowsOf 81 k_Handle.sz ls] [RDS A1 cp2 a0, RDK A5 cp6 a0, RE.chunks k_Slot s2 v.Arena.Slots, RE.chunks kHd s3 (ls.map Inn.hd), RE.inns k_Handle ls] := by rw [hW]; exact H.drew
      clear hW
      refine PR_free (by rfl) (by rfl) (by rfl) (by exact wn0 rfl) (fun wS => (x_fieldAddr fo79_1 (by rfl))) ?_
      refine PR_take (by rfl) (by rfl) (by rfl) (by exact wn0 rfl) (fun wS (H : Sep ok w wS [.blk b9 79 [.slice A2 v.Arena.Slots.length c2, .slice A3 (ls.map Inn.hd).length c3], HNB b11 a1, HNB b13 a2, .blk b15 79 [.slice none 0 0, .slice none 0 0], .row (.slice A2 v.Arena.Slots.length c2) 96 k_Slot.sz v.Arena.Slots.length s2, .row (.slice A3 (ls.map Inn.hd).length c3) 87 kHd.sz (ls.map Inn.hd).length s3] [RDS A1 cp2 a0, RDK A5 cp6 a0, RE.chunks k_Slot s2 v.Arena.Slots, RE.chunks kHd s3 (ls.map Inn.hd)]) => (x_load (j := 1) (v := .slice A3 (ls.map Inn.hd).length c3) sc77 (by rfl) (H.cells (i := 0) (by rfl)) (by rfl))) ?_
      refine PR_free (by rfl) (by rfl) (by rfl) (by exact wn0 rfl) (fun wS => (x_fieldAddr fo81_0 (by rfl))) ?_
      refine PR_take (by rfl) (by rfl) (by rfl) (by exact wn0 rfl) (fun wS (H : Sep ok w wS [.blk b9 79 [.slice A2 v.Arena.Slots.length c2, .slice A3 (ls.map Inn.hd).length c3], HNB b11 a1, HNB b13 a2, .blk b15 79 [.slice none 0 0, .slice none 0 0], .row (.slice A2 v.Arena.Slots.length c2) 96 k_Slot.sz v.Arena.Slots.length s2, .row (.slice A3 (ls.map Inn.hd).length c3) 87 kHd.sz (ls.map Inn.hd).length s3] [RDS A1 cp2 a0, RDK A5 cp6 a0, RE.chunks k_Slot s2 v.Arena.Slots, RE.chunks kHd s3 (ls.map Inn.hd)]) => (x_load (j := 0) (v := .int .i64 a1.Slot) sc3 (by rfl) (H.cells (i := 1) (by rfl)) (by rfl))) ?_
      refine PR_free (by rfl) (by rfl) (by rfl) (by exact wn0 rfl) (fun wS => (x_fieldAddr fo79_1 (by rfl))) ?_
      refine PR_take (by rfl) (by rfl) (by rfl) (by exact wn0 rfl) (fun wS (H : Sep ok w wS [.blk b9 79 [.slice A2 v.Arena.Slots.length c2, .slice A3 (ls.map Inn.hd).length c3], HNB b11 a1, HNB b13 a2, .blk b15 79 [.slice none 0 0, .slice none 0 0], .row (.slice A2 v.Arena.Slots.length c2) 96 k_Slot.sz v.Arena.Slots.length s2, .row (.slice A3 (ls.map Inn.hd).length c3) 87 kHd.sz (ls.map Inn.hd).length s3] [RDS A1 cp2 a0, RDK A5 cp6 a0, RE.chunks k_Slot s2 v.Arena.Slots, RE.chunks kHd s3 (ls.map Inn.hd)]) => (x_load (j := 1) (v := .slice A3 (ls.map Inn.hd).length c3) sc77 (by rfl) (H.cells (i := 0) (by rfl)) (by rfl))) ?_
      refine PR_free (by rfl) (by rfl) (by rfl) (by exact wn0 rfl) (fun wS => (x_fieldAddr fo81_0 (by rfl))) ?_
      refine PR_take (by rfl) (by rfl) (by rfl) (by exact wn0 rfl) (fun wS (H : Sep ok w wS [.blk b9 79 [.slice A2 v.Arena.Slots.length c2, .slice A3 (ls.map Inn.hd).length c3], HNB b11 a1, HNB b13 a2, .blk b15 79 [.slice none 0 0, .slice none 0 0], .row (.slice A2 v.Arena.Slots.length c2) 96 k_Slot.sz v.Arena.Slots.length s2, .row (.slice A3 (ls.map Inn.hd).length c3) 87 kHd.sz (ls.map Inn.hd).length s3] [RDS A1 cp2 a0, RDK A5 cp6 a0, RE.chunks k_Slot s2 v.Arena.Slots, RE.chunks kHd s3 (ls.map Inn.hd)]) => (x_load (j := 0) (v := .int .i64 a1.Slot) sc3 (by rfl) (H.cells (i := 1) (by rfl)) (by rfl))) ?_
      refine PR_free (by rfl) (by rfl) (by rfl) (by exact wn0 rfl) (fun wS => (x_indexAddr sl77 sz87 (by rfl) (by rfl) hAi h0 h1')) ?_
      refine PR_take (by rfl) (by rfl) (by rfl) (by exact wn0 rfl) (fun wS (H : Sep ok w wS [.blk b9 79 [.slice A2 v.Arena.Slots.length c2, .slice A3 (ls.map Inn.hd).length c3], HNB b11 a1, HNB b13 a2, .blk b15 79 [.slice none 0 0, .slice none 0 0], .row (.slice A2 v.Arena.Slots.length c2) 96 k_Slot.sz v.Arena.Slots.length s2, .row (.slice A3 (ls.map Inn.hd).length c3) 87 kHd.sz (ls.map Inn.hd).length s3] [RDS A1 cp2 a0, RDK A5 cp6 a0, RE.chunks k_Slot s2 v.Arena.Slots, RE.chunks kHd s3 (ls.map Inn.hd)]) => (x_load (j := 0) (v := .slice r.A r.xs.length r.c) sc87 (by rfl) (H.rowFlatAt (n := 1) (i := 5) (j := 3) (by rfl) (by rfl) hAi hhd) (by rfl))) ?_
      refine PR_free (by rfl) (by rfl) (by rfl) (by exact wn0 rfl) (fun wS => (x_move (v := .int .i64 a3) (by rfl))) ?_
      refine PR_take (by rfl) (by rfl) (by rfl) (by exact wn0 rfl) (fun wS (H : Sep ok w wS [.blk b9 79 [.slice A2 v.Arena.Slots.length c2, .slice A3 (ls.map Inn.hd).length c3], HNB b11 a1, HNB b13 a2, .blk b15 79 [.slice none 0 0, .slice none 0 0], .row (.slice A2 v.Arena.Slots.length c2) 96 k_Slot.sz v.Arena.Slots.length s2, .row (.slice A3 (ls.map Inn.hd).length c3) 87 kHd.sz (ls.map Inn.hd).length s3] [RDS A1 cp2 a0, RDK A5 cp6 a0, RE.chunks k_Slot s2 v.Arena.Slots, RE.chunks kHd s3 (ls.map Inn.hd)]) => (x_loadA (j := 0) (vs := [.int .i64 a2.Slot, .int .i64 a2.Gen]) ag81 (by rfl) (H.cells (i := 2) (by rfl)) (by rfl) (by rfl))) ?_
      refine PR_run (by rfl) (O_buildSlice (vs := [(0, .agg #[.int .i64 a2.Slot, .int .i64 a2.Gen])]) (cs := [.int .i64 a2.Slot, .int .i64 a2.Gen]) (by exact wn0 rfl) (by rfl) sl87 sz81 ze81 (by rfl) (by rfl) (by rfl) (by kernel_rfl) H (fun w8 bn (H : Sep ok w w8 [.blk b9 79 [.slice A2 v.Arena.Slots.length c2, .slice A3 (ls.map Inn.hd).length c3], HNB b11 a1, HNB b13 a2, .blk b15 79 [.slice none 0 0, .slice none 0 0], .row (.slice A2 v.Arena.Slots.length c2) 96 k_Slot.sz v.Arena.Slots.length s2, .row (.slice A3 (ls.map Inn.hd).length c3) 87 kHd.sz (ls.map Inn.hd).length s3, rowsOf 81 k_Handle.sz ls, HNB bn a2] [RDS A1 cp2 a0, RDK A5 cp6 a0, RE.chunks k_Slot s2 v.Arena.Slots, RE.chunks kHd s3 (ls.map Inn.hd), RE.inns k_Handle ls]) => ⟨(H.takeL 6).takeR 4, ?_⟩))
      have H : Sep ok w w8 [.blk b9 79 [.slice A2 v.Arena.Slots.length c2, .slice A3 (ls.map Inn.hd).length c3], HNB b11 a1, HNB b13 a2, .blk b15 79 [.slice none 0 0, .slice none 0 0], .row (.slice A2 v.Arena.Slots.length c2) 96 k_Slot.sz v.Arena.Slots.length s2, .row (.slice A3 (ls.map Inn.hd).length c3) 87 kHd.sz (ls.map Inn.hd).length s3, rowsOf 81 k_Handle.sz (ls.set a1.Slot.toNat Inn.nil), HNB bn a2, .row (.slice r.A r.xs.length r.c) 81 k_Handle.sz r.xs.length r.cs] [RDS A1 cp2 a0, RDK A5 cp6 a0, RE.chunks k_Slot s2 v.Arena.Slots, RE.chunks kHd s3 (ls.map Inn.hd), RE.inns k_Handle ls] := H.rowsPull (i := 6) (j := a1.Slot.toNat) (by rfl) hr
      have hrc : Chunks k_Handle w8 (okS ok w [.blk b9 79 [.slice A2 v.Arena.Slots.length c2, .slice A3 (ls.map Inn.hd).length c3], HNB b11 a1, HNB b13 a2, .blk b15 79 [.slice none 0 0, .slice none 0 0], .row (.slice A2 v.Arena.Slots.length c2) 96 k_Slot.sz v.Arena.Slots.length s2, .row (.slice A3 (ls.map Inn.hd).length c3) 87 kHd.sz (ls.map Inn.hd).length s3, rowsOf 81 k_Handle.sz (ls.set a1.Slot.toNat Inn.nil), HNB bn a2, .row (.slice r.A r.xs.length r.c) 81 k_Handle.sz r.xs.length r.cs]) r.cs r.xs := (show (RE.inns k_Handle ls).rel w8 _ from H.rds 4 _ (by rfl)) r (List.mem_of_getElem? hr)
      have HL := H.lend (i := 8) (by rfl)
      have HL := HL.also (re := RE.chunks k_Handle r.cs r.xs) (hrc.flat (fun _ _ _ _ _ _ h => h))
      have HL := HL.also (re := RE.heap bn (obH a2)) ⟨(show (Ent.blk bn 81 [.int .i64 a2.Slot, .int .i64 a2.Gen]).ok w8 from H.ents 7 _ (by rfl)), fun hb' => other_blk H.nodup (i := 7) (j := 8) (by rfl) (by rfl) (by decide) (b := bn) (by simp [Ent.blks]) (by rwa [blks_one] at hb'), .inl trivial⟩
      obtain ⟨l2, hl2⟩ : ∃ l2, r.xs.take a3.toNat ++ a2 :: r.xs.drop a3.toNat = l2 := ⟨_, rfl⟩
      rw [hl2] at hm
      have hat : ((a3.toNat : Nat) : Int) = a3 := Int.toNat_of_nonneg ha0
      have hcall := c81 _ w8 w8 r.xs a3.toNat a2 r.A r.c r.cs bn HL (by omega) ha2 l2 hl2
      rw [hat] at hcall
      refine PR_run (by rfl) (O_call (by exact wn0 rfl) (by rfl) (by rfl) (x_callL (by rfl) (args := [.slice r.A r.xs.length r.c, .int .i64 a3, .slice (some ⟨bn, 0, none⟩) 1 1]) (by rfl) (cf81 _ _)) hcall ?_)
      rintro e w5 ⟨A7, c7, cs7, rfl, HB⟩
      have hcB : Chunks k_Handle w5 _ cs7 l2 := HB.rds 0 _ (by rfl)
      have H : Sep ok w w5 [.blk b9 79 [.slice A2 v.Arena.Slots.length c2, .slice A3 (ls.map Inn.hd).length c3], HNB b11 a1, HNB b13 a2, .blk b15 79 [.slice none 0 0, .slice none 0 0], .row (.slice A2 v.Arena.Slots.length c2) 96 k_Slot.sz v.Arena.Slots.length s2, .row (.slice A3 (ls.map Inn.hd).length c3) 87 kHd.sz (ls.map Inn.hd).length s3, rowsOf 81 k_Handle.sz (ls.set a1.Slot.toNat Inn.nil), HNB bn a2, .row (.slice A7 l2.length c7) 81 k_Handle.sz l2.length cs7] [RDS A1 cp2 a0, RDK A5 cp6 a0, RE.chunks k_Slot s2 v.Arena.Slots, RE.chunks kHd s3 (ls.map Inn.hd), RE.inns k_Handle ls, RE.chunks k_Handle cs7 l2] := (H.back (i := 8) (by rfl) HB).also (re := RE.chunks k_Handle cs7 l2) (hcB.flat (fun _ _ _ _ _ _ h => h))
      clear HB HL
      refine ⟨_, rfl, (H.takeL 6).takeR 4, ?_⟩
      show PR _ _ _ _ _ _ _ _
      refine PR_free (by rfl) (by rfl) (by rfl) (by exact wn0 rfl) (fun wS => (x_indexAddr sl77 sz87 (by rfl) (by rfl) hAi h0 h1')) ?_
      obtain ⟨ls3, hls3⟩ : ∃ ls3 : List (Inn S_Handle), ls.set a1.Slot.toNat ⟨A7, c7, cs7, l2⟩ = ls3 := ⟨_, rfl⟩
      have hset : (ls.map Inn.hd).set a1.Slot.toNat (A7, l2.length, c7) = ls3.map Inn.hd := by rw [← hls3, List.map_set]; rfl
      have hlen3 : (ls3.map Inn.hd).length = (ls.map Inn.hd).length := by rw [← hset, List.length_set]
      refine PR_tail (by rfl) (O_storeRow (D := kHd) (i := 5) (j := 3) (off := 0) (m := a1.Slot) (a := r.hd) (b := (A7, l2.length, c7)) (vs := [.slice A7 l2.length c7]) (by exact wn0 rfl) H (by rfl) (by rfl) hAi (by rfl) (by rfl) hhd (by rfl) sz87 (by rfl) (by rfl) (by intro ce hce; obtain rfl := hce; rfl) hset (fun w6 s6 (H : Sep ok w w6 [.blk b9 79 [.slice A2 v.Arena.Slots.length c2, .slice A3 (ls.map Inn.hd).length c3], HNB b11 a1, HNB b13 a2, .blk b15 79 [.slice none 0 0, .slice none 0 0], .row (.slice A2 v.Arena.Slots.length c2) 96 k_Slot.sz v.Arena.Slots.length s2, .row (.slice A3 (ls3.map Inn.hd).length c3) 87 kHd.sz (ls3.map Inn.hd).length s6, rowsOf 81 k_Handle.sz (ls.set a1.Slot.toNat Inn.nil), HNB bn a2, .row (.slice A7 l2.length c7) 81 k_Handle.sz l2.length cs7] [RDS A1 cp2 a0, RDK A5 cp6 a0, RE.chunks k_Slot s2 v.Arena.Slots, RE.chunks kHd s6 (ls3.map Inn.hd), RE.inns k_Handle ls, RE.chunks k_Handle cs7 l2]) => ?_))
      refine PR_nil ?_
      have hin := RE.inns_set (r := (⟨A7, c7, cs7, l2⟩ : Inn S_Handle)) (j := a1.Slot.toNat) (show (RE.inns k_Handle ls).rel w6 _ from H.rds 4 _ (by rfl)) (show (RE.chunks k_Handle cs7 l2).rel w6 _ from H.rds 5 _ (by rfl))
      rw [hls3] at hin
      have H := (H.setRe 4 hin).rowsPut (i := 6) (j := a1.Slot.toNat) (k := 8) (r0 := Inn.nil) (r := ⟨A7, c7, cs7, l2⟩) (by rfl) (by rw [List.getElem?_set_self (by omega)]) (by rfl) (by decide)
      rw [List.set_set, hls3] at H
      have H : Sep ok w w6 [.blk b9 79 [.slice A2 v.Arena.Slots.length c2, .slice A3 (ls.map Inn.hd).length c3], HNB b11 a1, HNB b13 a2, .blk b15 79 [.slice none 0 0, .slice none 0 0], .row (.slice A2 v.Arena.Slots.length c2) 96 k_Slot.sz v.Arena.Slots.length s2, .row (.slice A3 (ls3.map Inn.hd).length c3) 87 kHd.sz (ls3.map Inn.hd).length s6, rowsOf 81 k_Handle.sz ls3] [RDS A1 cp2 a0, RDK A5 cp6 a0, RE.chunks k_Slot s2 v.Arena.Slots, RE.chunks kHd s6 (ls3.map Inn.hd), RE.inns k_Handle ls3] := (H.takeL 7).takeR 5
      have hk3 : ls3.map (·.xs) = v.Kids.set a1.Slot.toNat l2 := by rw [← hls3, List.map_set, hls]
      have hlk : (ls3.map Inn.hd).length = (ls.map Inn.hd).length := by
       have h1 := congrArg List.length hk3
       simp only [List.length_map, List.length_set] at h1 ⊢
       omega
      refine W_seq ?_
      refine W_region ?_
      refine RL_p (x_loadA (j := 0) (vs := [.slice A2 v.Arena.Slots.length c2, .slice A3 (ls.map Inn.hd).length c3]) ag79 (by rfl) (H.cells (i := 0) (by rfl)) (by rfl) (by rfl)) ?_
      refine RL_cons (O_store (i := 3) (off := 0) (by exact wn0 rfl) (by rfl) (by rfl) H (by rfl) (vs := [.slice A2 v.Arena.Slots.length c2, .slice A3 (ls.map Inn.hd).length c3]) (by rfl) sz79 (by rfl) (by rfl) (by rfl) (fun w7 (H : Sep ok w w7 [.blk b9 79 [.slice A2 v.Arena.Slots.length c2, .slice A3 (ls.map Inn.hd).length c3], HNB b11 a1, HNB b13 a2, .blk b15 79 [.slice A2 v.Arena.Slots.length c2, .slice A3 (ls.map Inn.hd).length c3], .row (.slice A2 v.Arena.Slots.length c2) 96 k_Slot.sz v.Arena.Slots.length s2, .row (.slice A3 (ls3.map Inn.hd).length c3) 87 kHd.sz (ls3.map Inn.hd).length s6, rowsOf 81 k_Handle.sz ls3] [RDS A1 cp2 a0, RDK A5 cp6 a0, RE.chunks k_Slot s2 v.Arena.Slots, RE.chunks kHd s6 (ls3.map Inn.hd), RE.inns k_Handle ls3]) => ?_))
      refine RL_p (x_assign (v := .int .i64 0) (by rfl)) ?_
      refine RL_nil ?_
      refine W_ret ?_
      have HF : Sep ok w w7 [.blk b9 79 [.slice A2 v.Arena.Slots.length c2, .slice A3 (ls.map Inn.hd).length c3], HNB b11 a1, HNB b13 a2, .blk b15 79 [.slice A2 v.Arena.Slots.length c2, .slice A3 (ls.map Inn.hd).length c3], .row (.slice A2 v.Arena.Slots.length c2) 96 k_Slot.sz v.Arena.Slots.length s2, .row (.slice A3 (ls3.map Inn.hd).length c3) 87 kHd.sz (ls3.map Inn.hd).length s6, rowsOf 81 k_Handle.sz ls3] [RDS A1 cp2 a0, RDK A5 cp6 a0, RE.chunks k_Slot s2 v.Arena.Slots, RE.chunks kHd s6 (ls3.map Inn.hd), RE.inns k_Handle ls3] := H
      have H := H.frozenF hno (fun _ _ _ _ _ _ h => h) (i := 4) (j := 2) (by rfl) (by rfl)
      have H := H.rowsFreeze hno (fun _ _ _ _ _ _ h => h) (i := 6) (o := 5) (j := 3) (q := 4) (l := ls3) (by rfl) (by rw [← (List.length_map Inn.hd : (List.map Inn.hd ls3).length = _)]; rfl) (by rfl) (by rfl) (by decide)
      rw [hk3] at H
      obtain rfl := Option.some.inj hm
      have hkl : (ls.map Inn.hd).length = (v.Kids.set a1.Slot.toNat l2).length := by rw [← hk3, ← hlk, List.length_map, List.length_map]
      exact ⟨[.agg #[.slice A2 v.Arena.Slots.length c2, .slice A3 (ls.map Inn.hd).length c3], .int .i64 0], (.cellA (by rfl) ag79 (HF.cells (i := 3) (by rfl)) (by rfl) (.tmp (by rfl) rfl)), A2, c2, A3, c3, by rw [hkl] <;> rfl, (H.forgetAll).pick [2, 5]⟩

theorem c38 (ok : Okp) (K : Nat) (w : World) (a0 : S_Graph) (A1 : Option Addr) (cp2 : Nat) (A5 : Option Addr) (cp6 : Nat) (a1 : S_Handle) (a2 : S_Handle) (a3 : Int) (hR3 : Rd k_Slot w ok A1 cp2 a0.Arena.Slots) (hR7 : Rd (Kd.slice k_Handle) w ok A5 cp6 a0.Kids) (res : S_Graph × Int) (hm : m38 K a0 a1 a2 a3 = some res) (hno : ∀ k, ¬ ok.wr k := by intro k hk; exact hk) :
  Calls Try.prog 38 #[.agg #[.slice A1 a0.Arena.Slots.length cp2, .slice A5 a0.Kids.length cp6], .agg #[.int .i64 a1.Slot, .int .i64 a1.Gen], .agg #[.int .i64 a2.Slot, .int .i64 a2.Gen], .int .i64 a3] w (fun e w' => ∃ (A0_ : Option Addr) (c0_ : Nat), ∃ (A1_ : Option Addr) (c1_ : Nat), e = .returned (tup [.agg #[.slice A0_ res.1.Arena.Slots.length c0_, .slice A1_ res.1.Kids.length c1_], .int .i64 res.2]) ∧ Sep ok w w' [] [RDS A0_ c0_ res.1, RDK A1_ c1_ res.1]) :=
 (c38n ok hno K w a0 A1 cp2 A5 cp6 a1 a2 a3 hR3 hR7 res hm).mono fun e w' ⟨A0_, c0_, A1_, c1_, he, H⟩ => ⟨A0_, c0_, A1_, c1_, he, ((H.alsoRd (i := 0) (by rfl)).alsoRd (i := 1) (by rfl)).pick [2, 3]⟩
end Go.Proofs.YtobkigllalbkiaaV.M

/- A plain Lean function that answers as the Go function does (none: not told), and the proof that a call answers so. Written by program. -/
set_option linter.unusedVariables false
namespace Go.Proofs.YtobkigllalbkiaaV.M
open Go.RowKit Go.Proofs.YtobkigllalbkiaaV
/-- diorama/arena.Kill -/
def m83 (K : Nat) (a0 : S_Arena) (a1 : S_Handle) : Option (S_Arena × Int) :=
 ((m88 K a0).bind fun v12 => (bif (v12 != 0) then some ((⟨[]⟩ : S_Arena), v12) else ((m120 K a0 a1).bind fun v17 => (bif (!v17) then some ((⟨[]⟩ : S_Arena), 50) else ((m102 K a0).bind fun v22 => (idx v22.Slots a1.Slot fun el30 => (lete (v22.Slots.set ((a1.Slot).toNat) (⟨el30.Gen, false⟩ : S_Slot)) fun l39 => some ((⟨l39⟩ : S_Arena), 0))))))))
set_option maxRecDepth 100000 in
set_option maxHeartbeats 4000000 in
theorem c83 (ok : Okp) (K : Nat) (w : World) (a0 : S_Arena) (A1 : Option Addr) (cp2 : Nat) (a1 : S_Handle) (hR3 : Rd k_Slot w ok A1 cp2 a0.Slots) (res : S_Arena × Int) (hm : m83 K a0 a1 = some res) :
  Calls Try.prog 83 #[.agg #[.slice A1 a0.Slots.length cp2], .agg #[.int .i64 a1.Slot, .int .i64 a1.Gen]] w (fun e w' => ∃ (A0_ : Option Addr) (c0_ : Nat), e = .returned (tup [.agg #[.slice A0_ res.1.Slots.length c0_], .int .i64 res.2]) ∧ Sep ok w w' [] [RE.rd k_Slot A0_ c0_ res.1.Slots]) := by
 refine calls_W (args := [.agg #[.slice A1 a0.Slots.length cp2], .agg #[.int .i64 a1.Slot, .int .i64 a1.Gen]]) Try.func83 rfl Try.ntmps83 Try.results83 rfl fun r hr => ?_
 obtain ⟨r1, rfl⟩ := regen (r := r) [(0, .agg #[.slice A1 a0.Slots.length cp2]), (1, .agg #[.int .i64 a1.Slot, .int .i64 a1.Gen])] ⟨hr 0 _ rfl, hr 1 _ rfl, trivial⟩
 have H : Sep ok w w [] [RE.rd k_Slot A1 cp2 a0.Slots] := Sep.arg (Sep.start ok w) (re := RE.rd k_Slot A1 cp2 a0.Slots) rfl rfl hR3
 unfold m83 at hm
 refine W_seq ?_
 refine W_region ?_
 refine RL_cons (O_box (by exact wn0 rfl) (by rfl) (by rfl) (by rfl) H (fun w6 b5 (H : Sep ok w w6 [.blk b5 76 [.slice A1 a0.Slots.length cp2]] [RE.rd k_Slot A1 cp2 a0.Slots]) => ?_))
 refine RL_cons (O_box (by exact wn0 rfl) (by rfl) (by rfl) (by rfl) H (fun w8 b7 (H : Sep ok w w8 [.blk b5 76 [.slice A1 a0.Slots.length cp2], HNB b7 a1] [RE.rd k_Slot A1 cp2 a0.Slots]) => ?_))
 refine RL_cons (O_alloc (by exact wn0 rfl) (by rfl) ze76 (by rfl) H (fun w10 b9 (H : Sep ok w w10 [.blk b5 76 [.slice A1 a0.Slots.length cp2], HNB b7 a1, .blk b9 76 [.slice none 0 0]] [RE.rd k_Slot A1 cp2 a0.Slots]) => ?_))
 refine RL_p (x_assign (v := .int .i64 0) (by rfl)) ?_
 refine RL_nil ?_
 refine W_seq ?_
 refine W_seq ?_
 refine W_region ?_
 refine RL_p (x_loadA (j := 0) (vs := [.slice A1 a0.Slots.length cp2]) ag76 (by rfl) (H.cells (i := 0) (by rfl)) (by rfl) (by rfl)) ?_
 obtain ⟨v12, hv11, hm⟩ := bind_some hm
 refine RL_cons (O_call (by exact wn0 rfl) (by rfl) (by rfl) (x_callL (by rfl) (args := [.agg #[.slice A1 a0.Slots.length cp2]]) (by rfl) (cf88 _ _)) (c88 okT K w10 a0 A1 cp2 (H.rd (i := 0) (by rfl)).any v12 hv11) ?_)
 rintro e w13 ⟨rfl, H2⟩
 have H : Sep ok w w13 [.blk b5 76 [.slice A1 a0.Slots.length cp2], HNB b7 a1, .blk b9 76 [.slice none 0 0]] [RE.rd k_Slot A1 cp2 a0.Slots] := H.below H2.base
 clear H2
 refine ⟨_, rfl, ?_⟩
 show RL _ _ _ _ _ _ _
 refine RL_p (x_assign (v := .int .i64 v12) (by rfl)) ?_
 refine RL_nil ?_
 refine W_seq ?_
 refine W_region ?_
 refine RL_p (x_move (v := .int .i64 v12) (by rfl)) ?_
 refine RL_p (x_neq (by rfl) (by rfl)) ?_
 refine RL_nil ?_
 refine W_cond (by rfl) (fun hb => ?_) (fun hb => ?_)
 ·have hm := cond_t hb hm
  refine W_seq ?_
  refine W_region ?_
  refine RL_p (x_build (vs := []) (cs := [.slice none 0 0]) (by rfl) (by kernel_rfl)) ?_
  refine RL_p (x_move (v := .int .i64 v12) (by rfl)) ?_
  refine RL_cons (O_store (i := 2) (off := 0) (by exact wn0 rfl) (by rfl) (by rfl) H (by rfl) (vs := [.slice none 0 0]) (by rfl) sz76 (by rfl) (by rfl) (by rfl) (fun w14 (H : Sep ok w w14 [.blk b5 76 [.slice A1 a0.Slots.length cp2], HNB b7 a1, .blk b9 76 [.slice none 0 0]] [RE.rd k_Slot A1 cp2 a0.Slots]) => ?_))
  refine RL_p (x_assign (v := .int .i64 v12) (by rfl)) ?_
  refine RL_nil ?_
  refine W_ret ?_
  have H : Sep ok w w14 [.blk b5 76 [.slice A1 a0.Slots.length cp2], HNB b7 a1, .blk b9 76 [.slice none 0 0]] [RE.rd k_Slot A1 cp2 a0.Slots, RE.rd k_Slot none 0 ([])] := Sep.also H (re := RE.rd k_Slot none 0 ([])) (Rd.nil (by decide))
  obtain rfl := Option.some.inj hm
  exact ⟨[.agg #[.slice none 0 0], .int .i64 v12], (.cellA (by rfl) ag76 (H.cells (i := 2) (by rfl)) (by rfl) (.tmp (by rfl) rfl)), none, 0, rfl, (H.forgetAll).pick [1]⟩
 ·have hm := cond_f hb hm
  refine W_skip ?_
  refine W_seq ?_
  refine W_seq ?_
  refine W_region ?_
  refine RL_p (x_loadA (j := 0) (vs := [.slice A1 a0.Slots.length cp2]) ag76 (by rfl) (H.cells (i := 0) (by rfl)) (by rfl) (by rfl)) ?_
  refine RL_p (x_loadA (j := 0) (vs := [.int .i64 a1.Slot, .int .i64 a1.Gen]) ag81 (by rfl) (H.cells (i := 1) (by rfl)) (by rfl) (by rfl)) ?_
  obtain ⟨v17, hv16, hm⟩ := bind_some hm
  refine RL_cons (O_call (by exact wn0 rfl) (by rfl) (by rfl) (x_callL (by rfl) (args := [.agg #[.slice A1 a0.Slots.length cp2], .agg #[.int .i64 a1.Slot, .int .i64 a1.Gen]]) (by rfl) (cf120 _ _)) (c120 okT K w13 a0 A1 cp2 a1 (H.rd (i := 0) (by rfl)).any v17 hv16) ?_)
  rintro e w18 ⟨rfl, H2⟩
  have H : Sep ok w w18 [.blk b5 76 [.slice A1 a0.Slots.length cp2], HNB b7 a1, .blk b9 76 [.slice none 0 0]] [RE.rd k_Slot A1 cp2 a0.Slots] := H.below H2.base
  clear H2
  refine ⟨_, rfl, ?_⟩
  show RL _ _ _ _ _ _ _
  refine RL_p (x_not (by rfl)) ?_
  refine RL_nil ?_
  refine W_cond (by rfl) (fun hb => ?_) (fun hb => ?_)
  ·have hm := cond_t hb hm
   refine W_seq ?_
   refine W_region ?_
   refine RL_p (x_build (vs := []) (cs := [.slice none 0 0]) (by rfl) (by kernel_rfl)) ?_
   refine RL_cons (O_store (i := 2) (off := 0) (by exact wn0 rfl) (by rfl) (by rfl) H (by rfl) (vs := [.slice none 0 0]) (by rfl) sz76 (by rfl) (by rfl) (by rfl) (fun w19 (H : Sep ok w w19 [.blk b5 76 [.slice A1 a0.Slots.length cp2], HNB b7 a1, .blk b9 76 [.slice none 0 0]] [RE.rd k_Slot A1 cp2 a0.Slots]) => ?_))
   refine RL_p (x_assign (v := .int .i64 50) (by rfl)) ?_
   refine RL_nil ?_
   refine W_ret ?_
   have H : Sep ok w w19 [.blk b5 76 [.slice A1 a0.Slots.length cp2], HNB b7 a1, .blk b9 76 [.slice none 0 0]] [RE.rd k_Slot A1 cp2 a0.Slots, RE.rd k_Slot none 0 ([])] := Sep.also H (re := RE.rd k_Slot none 0 ([])) (Rd.nil (by decide))
   obtain rfl := Option.some.inj hm
   exact ⟨[.agg #[.slice none 0 0], .int .i64 50], (.cellA (by rfl) ag76 (H.cells (i := 2) (by rfl)) (by rfl) (.tmp (by rfl) rfl)), none, 0, rfl, (H.forgetAll).pick [1]⟩
  ·have hm := cond_f hb hm
   refine W_skip ?_
   refine W_seq ?_
   refine W_region ?_
   refine RL_p (x_loadA (j := 0) (vs := [.slice A1 a0.Slots.length cp2]) ag76 (by rfl) (H.cells (i := 0) (by rfl)) (by rfl) (by rfl)) ?_
   obtain ⟨v22, hv21, hm⟩ := bind_some hm
   refine RL_cons (O_call (by exact wn0 rfl) (by rfl) (by rfl) (x_callL (by rfl) (args := [.agg #[.slice A1 a0.Slots.length cp2]]) (by rfl) (cf102 _ _)) (c102 (okS ok w [.blk b5 76 [.slice A1 a0.Slots.length cp2], HNB b7 a1, .blk b9 76 [.slice none 0 0]]) K w18 a0 A1 cp2 (H.rd (i := 0) (by rfl)) v22 hv21) ?_)
   rintro e w23 ⟨A24, cp25, cs26, rfl, H2⟩
   have H : Sep ok w w23 [.blk b5 76 [.slice A1 a0.Slots.length cp2], HNB b7 a1, .blk b9 76 [.slice none 0 0], .row (.slice A24 v22.Slots.length cp25) 96 k_Slot.sz v22.Slots.length cs26] [RE.rd k_Slot A1 cp2 a0.Slots, RE.chunks k_Slot cs26 v22.Slots] := H.call H2
   clear H2
   refine ⟨_, rfl, ?_⟩
   show RL _ _ _ _ _ _ _
   refine RL_cons (O_store (i := 0) (off := 0) (by exact wn0 rfl) (by rfl) (by rfl) H (by rfl) (vs := [.slice A24 v22.Slots.length cp25]) (by rfl) sz76 (by rfl) (by rfl) (by rfl) (fun w29 (H : Sep ok w w29 [.blk b5 76 [.slice A24 v22.Slots.length cp25], HNB b7 a1, .blk b9 76 [.slice none 0 0], .row (.slice A24 v22.Slots.length cp25) 96 k_Slot.sz v22.Slots.length cs26] [RE.rd k_Slot A1 cp2 a0.Slots, RE.chunks k_Slot cs26 v22.Slots]) => ?_))
   refine RL_nil ?_
   refine W_seq ?_
   refine W_region ?_
   refine RL_p (x_fieldAddr fo76_0 (by rfl)) ?_
   refine RL_p (x_load (j := 0) (v := .slice A24 v22.Slots.length cp25) sc74 (by rfl) (H.cells (i := 0) (by rfl)) (by rfl)) ?_
   refine RL_p (x_fieldAddr fo81_0 (by rfl)) ?_
   refine RL_p (x_load (j := 0) (v := .int .i64 a1.Slot) sc3 (by rfl) (H.cells (i := 1) (by rfl)) (by rfl)) ?_
   obtain ⟨el30, h31, h32, he33, hm⟩ := idx_some hm
   obtain ⟨g35, _, hA34, _, _⟩ := H.rowIdx (i := 3) (j := 1) (by rfl) (by rfl) he33
   refine RL_p (x_indexAddr sl74 sz96 (by rfl) (by rfl) hA34 h31 h32) ?_
   refine RL_p (x_fieldAddr fo96_1 (by rfl)) ?_
   obtain ⟨l39, hl40, hm⟩ := lete_some hm
   refine RL_cons (O_storeRow (D := k_Slot) (i := 3) (j := 1) (off := 1) (m := a1.Slot) (a := el30) (b := (⟨el30.Gen, false⟩ : S_Slot)) (vs := [.bool false]) (by exact wn0 rfl) H (by rfl) (by rfl) hA34 (by rfl) (by rfl) he33 (by rfl) sz4 (by rfl) (by rfl) (by intro ce hce; obtain rfl := hce; rfl) hl40 (fun w37 cs38 (H : Sep ok w w37 [.blk b5 76 [.slice A24 v22.Slots.length cp25], HNB b7 a1, .blk b9 76 [.slice none 0 0], .row (.slice A24 l39.length cp25) 96 k_Slot.sz l39.length cs38] [RE.rd k_Slot A1 cp2 a0.Slots, RE.chunks k_Slot cs38 l39]) => ?_))
   refine RL_nil ?_
   have hn41 : v22.Slots.length = l39.length := by rw [← hl40]; exact (List.length_set ..).symm
   have H : Sep ok w w37 [.blk b5 76 [.slice A24 l39.length cp25], HNB b7 a1, .blk b9 76 [.slice none 0 0], .row (.slice A24 l39.length cp25) 96 k_Slot.sz l39.length cs38] [RE.rd k_Slot A1 cp2 a0.Slots, RE.chunks k_Slot cs38 l39] := by (try rw [hn41] at H); exact H
   refine W_regen (l := [(2, .pointer (some ⟨b5, 0, none⟩)), (4, .pointer (some ⟨b9, 0, none⟩))]) ⟨rfl, rfl, trivial⟩ fun r42 => ?_
   refine W_seq ?_
   refine W_region ?_
   refine RL_p (x_loadA (j := 0) (vs := [.slice A24 l39.length cp25]) ag76 (by rfl) (H.cells (i := 0) (by rfl)) (by rfl) (by rfl)) ?_
   refine RL_cons (O_store (i := 2) (off := 0) (by exact wn0 rfl) (by rfl) (by rfl) H (by rfl) (vs := [.slice A24 l39.length cp25]) (by rfl) sz76 (by rfl) (by rfl) (by rfl) (fun w43 (H : Sep ok w w43 [.blk b5 76 [.slice A24 l39.length cp25], HNB b7 a1, .blk b9 76 [.slice A24 l39.length cp25], .row (.slice A24 l39.length cp25) 96 k_Slot.sz l39.length cs38] [RE.rd k_Slot A1 cp2 a0.Slots, RE.chunks k_Slot cs38 l39]) => ?_))
   refine RL_p (x_assign (v := .int .i64 0) (by rfl)) ?_
   refine RL_nil ?_
   refine W_ret ?_
   have H : Sep ok w w43 [.blk b5 76 [.slice A24 l39.length cp25], HNB b7 a1, .blk b9 76 [.slice A24 l39.length cp25], .hole] [RE.rd k_Slot A1 cp2 a0.Slots, RE.rd k_Slot A24 cp25 l39] := H.frozen (i := 3) (j := 1) (by rfl) (by rfl)
   obtain rfl := Option.some.inj hm
   exact ⟨[.agg #[.slice A24 l39.length cp25], .int .i64 0], (.cellA (by rfl) ag76 (H.cells (i := 2) (by rfl)) (by rfl) (.tmp (by rfl) rfl)), A24, cp25, rfl, (H.forgetAll).pick [1]⟩

set_option maxRecDepth 100000 in
set_option maxHeartbeats 4000000 in
theorem c83n (ok : Okp) (hno : ∀ k, ¬ ok.wr k) (K : Nat) (w : World) (a0 : S_Arena) (A1 : Option Addr) (cp2 : Nat) (a1 : S_Handle) (hR3 : Rd k_Slot w ok A1 cp2 a0.Slots) (res : S_Arena × Int) (hm : m83 K a0 a1 = some res) :
  Calls Try.prog 83 #[.agg #[.slice A1 a0.Slots.length cp2], .agg #[.int .i64 a1.Slot, .int .i64 a1.Gen]] w (fun e w' => ∃ (A0_ : Option Addr) (c0_ : Nat), e = .returned (tup [.agg #[.slice A0_ res.1.Slots.length c0_], .int .i64 res.2]) ∧ Sep ok w w' [] [RE.fr w.heap.size k_Slot A0_ c0_ res.1.Slots]) := by
 refine calls_W (args := [.agg #[.slice A1 a0.Slots.length cp2], .agg #[.int .i64 a1.Slot, .int .i64 a1.Gen]]) Try.func83 rfl Try.ntmps83 Try.results83 rfl fun r hr => ?_
 obtain ⟨r1, rfl⟩ := regen (r := r) [(0, .agg #[.slice A1 a0.Slots.length cp2]), (1, .agg #[.int .i64 a1.Slot, .int .i64 a1.Gen])] ⟨hr 0 _ rfl, hr 1 _ rfl, trivial⟩
 have H : Sep ok w w [] [RE.rd k_Slot A1 cp2 a0.Slots] := Sep.arg (Sep.start ok w) (re := RE.rd k_Slot A1 cp2 a0.Slots) rfl rfl hR3
 unfold m83 at hm
 refine W_seq ?_
 refine W_region ?_
 refine RL_cons (O_box (by exact wn0 rfl) (by rfl) (by rfl) (by rfl) H (fun w6 b5 (H : Sep ok w w6 [.blk b5 76 [.slice A1 a0.Slots.length cp2]] [RE.rd k_Slot A1 cp2 a0.Slots]) => ?_))
 refine RL_cons (O_box (by exact wn0 rfl) (by rfl) (by rfl) (by rfl) H (fun w8 b7 (H : Sep ok w w8 [.blk b5 76 [.slice A1 a0.Slots.length cp2], HNB b7 a1] [RE.rd k_Slot A1 cp2 a0.Slots]) => ?_))
 refine RL_cons (O_alloc (by exact wn0 rfl) (by rfl) ze76 (by rfl) H (fun w10 b9 (H : Sep ok w w10 [.blk b5 76 [.slice A1 a0.Slots.length cp2], HNB b7 a1, .blk b9 76 [.slice none 0 0]] [RE.rd k_Slot A1 cp2 a0.Slots]) => ?_))
 refine RL_p (x_assign (v := .int .i64 0) (by rfl)) ?_
 refine RL_nil ?_
 refine W_seq ?_
 refine W_seq ?_
 refine W_region ?_
 refine RL_p (x_loadA (j := 0) (vs := [.slice A1 a0.Slots.length cp2]) ag76 (by rfl) (H.cells (i := 0) (by rfl)) (by rfl) (by rfl)) ?_
 obtain ⟨v12, hv11, hm⟩ := bind_some hm
 refine RL_cons (O_call (by exact wn0 rfl) (by rfl) (by rfl) (x_callL (by rfl) (args := [.agg #[.slice A1 a0.Slots.length cp2]]) (by rfl) (cf88 _ _)) (c88 okT K w10 a0 A1 cp2 (H.rd (i := 0) (by rfl)).any v12 hv11) ?_)
 rintro e w13 ⟨rfl, H2⟩
 have H : Sep ok w w13 [.blk b5 76 [.slice A1 a0.Slots.length cp2], HNB b7 a1, .blk b9 76 [.slice none 0 0]] [RE.rd k_Slot A1 cp2 a0.Slots] := H.below H2.base
 clear H2
 refine ⟨_, rfl, ?_⟩
 show RL _ _ _ _ _ _ _
 refine RL_p (x_assign (v := .int .i64 v12) (by rfl)) ?_
 refine RL_nil ?_
 refine W_seq ?_
 refine W_region ?_
 refine RL_p (x_move (v := .int .i64 v12) (by rfl)) ?_
 refine RL_p (x_neq (by rfl) (by rfl)) ?_
 refine RL_nil ?_
 refine W_cond (by rfl) (fun hb => ?_) (fun hb => ?_)
 ·have hm := cond_t hb hm
  refine W_seq ?_
  refine W_region ?_
  refine RL_p (x_build (vs := []) (cs := [.slice none 0 0]) (by rfl) (by kernel_rfl)) ?_
  refine RL_p (x_move (v := .int .i64 v12) (by rfl)) ?_
  refine RL_cons (O_store (i := 2) (off := 0) (by exact wn0 rfl) (by rfl) (by rfl) H (by rfl) (vs := [.slice none 0 0]) (by rfl) sz76 (by rfl) (by rfl) (by rfl) (fun w14 (H : Sep ok w w14 [.blk b5 76 [.slice A1 a0.Slots.length cp2], HNB b7 a1, .blk b9 76 [.slice none 0 0]] [RE.rd k_Slot A1 cp2 a0.Slots]) => ?_))
  refine RL_p (x_assign (v := .int .i64 v12) (by rfl)) ?_
  refine RL_nil ?_
  refine W_ret ?_
  have H : Sep ok w w14 [.blk b5 76 [.slice A1 a0.Slots.length cp2], HNB b7 a1, .blk b9 76 [.slice none 0 0]] [RE.rd k_Slot A1 cp2 a0.Slots, RE.fr w.heap.size k_Slot none 0 ([])] := Sep.also H (re := RE.fr w.heap.size k_Slot none 0 ([])) (Rd.nil (by decide))
  obtain rfl := Option.some.inj hm
  exact ⟨[.agg #[.slice none 0 0], .int .i64 v12], (.cellA (by rfl) ag76 (H.cells (i := 2) (by rfl)) (by rfl) (.tmp (by rfl) rfl)), none, 0, rfl, (H.forgetAll).pick [1]⟩
 ·have hm := cond_f hb hm
  refine W_skip ?_
  refine W_seq ?_
  refine W_seq ?_
  refine W_region ?_
  refine RL_p (x_loadA (j := 0) (vs := [.slice A1 a0.Slots.length cp2]) ag76 (by rfl) (H.cells (i := 0) (by rfl)) (by rfl) (by rfl)) ?_
  refine RL_p (x_loadA (j := 0) (vs := [.int .i64 a1.Slot, .int .i64 a1.Gen]) ag81 (by rfl) (H.cells (i := 1) (by rfl)) (by rfl) (by rfl)) ?_
  obtain ⟨v17, hv16, hm⟩ := bind_some hm
  refine RL_cons (O_call (by exact wn0 rfl) (by rfl) (by rfl) (x_callL (by rfl) (args := [.agg #[.slice A1 a0.Slots.length cp2], .agg #[.int .i64 a1.Slot, .int .i64 a1.Gen]]) (by rfl) (cf120 _ _)) (c120 okT K w13 a0 A1 cp2 a1 (H.rd (i := 0) (by rfl)).any v17 hv16) ?_)
  rintro e w18 ⟨rfl, H2⟩
  have H : Sep ok w w18 [.blk b5 76 [.slice A1 a0.Slots.length cp2], HNB b7 a1, .blk b9 76 [.slice none 0 0]] [RE.rd k_Slot A1 cp2 a0.Slots] := H.below H2.base
  clear H2
  refine ⟨_, rfl, ?_⟩
  show RL _ _ _ _ _ _ _
  refine RL_p (x_not (by rfl)) ?_
  refine RL_nil ?_
  refine W_cond (by rfl) (fun hb => ?_) (fun hb => ?_)
  ·have hm := cond_t hb hm
   refine W_seq ?_
   refine W_region ?_
   refine RL_p (x_build (vs := []) (cs := [.slice none 0 0]) (by rfl) (by kernel_rfl)) ?_
   refine RL_cons (O_store (i := 2) (off := 0) (by exact wn0 rfl) (by rfl) (by rfl) H (by rfl) (vs := [.slice none 0 0]) (by rfl) sz76 (by rfl) (by rfl) (by rfl) (fun w19 (H : Sep ok w w19 [.blk b5 76 [.slice A1 a0.Slots.length cp2], HNB b7 a1, .blk b9 76 [.slice none 0 0]] [RE.rd k_Slot A1 cp2 a0.Slots]) => ?_))
   refine RL_p (x_assign (v := .int .i64 50) (by rfl)) ?_
   refine RL_nil ?_
   refine W_ret ?_
   have H : Sep ok w w19 [.blk b5 76 [.slice A1 a0.Slots.length cp2], HNB b7 a1, .blk b9 76 [.slice none 0 0]] [RE.rd k_Slot A1 cp2 a0.Slots, RE.fr w.heap.size k_Slot none 0 ([])] := Sep.also H (re := RE.fr w.heap.size k_Slot none 0 ([])) (Rd.nil (by decide))
   obtain rfl := Option.some.inj hm
   exact ⟨[.agg #[.slice none 0 0], .int .i64 50], (.cellA (by rfl) ag76 (H.cells (i := 2) (by rfl)) (by rfl) (.tmp (by rfl) rfl)), none, 0, rfl, (H.forgetAll).pick [1]⟩
  ·have hm := cond_f hb hm
   refine W_skip ?_
   refine W_seq ?_
   refine W_region ?_
   refine RL_p (x_loadA (j := 0) (vs := [.slice A1 a0.Slots.length cp2]) ag76 (by rfl) (H.cells (i := 0) (by rfl)) (by rfl) (by rfl)) ?_
   obtain ⟨v22, hv21, hm⟩ := bind_some hm
   refine RL_cons (O_call (by exact wn0 rfl) (by rfl) (by rfl) (x_callL (by rfl) (args := [.agg #[.slice A1 a0.Slots.length cp2]]) (by rfl) (cf102 _ _)) (c102 (okS ok w [.blk b5 76 [.slice A1 a0.Slots.length cp2], HNB b7 a1, .blk b9 76 [.slice none 0 0]]) K w18 a0 A1 cp2 (H.rd (i := 0) (by rfl)) v22 hv21) ?_)
   rintro e w23 ⟨A24, cp25, cs26, rfl, H2⟩
   have H : Sep ok w w23 [.blk b5 76 [.slice A1 a0.Slots.length cp2], HNB b7 a1, .blk b9 76 [.slice none 0 0], .row (.slice A24 v22.Slots.length cp25) 96 k_Slot.sz v22.Slots.length cs26] [RE.rd k_Slot A1 cp2 a0.Slots, RE.chunks k_Slot cs26 v22.Slots] := H.call H2
   clear H2
   refine ⟨_, rfl, ?_⟩
   show RL _ _ _ _ _ _ _
   refine RL_cons (O_store (i := 0) (off := 0) (by exact wn0 rfl) (by rfl) (by rfl) H (by rfl) (vs := [.slice A24 v22.Slots.length cp25]) (by rfl) sz76 (by rfl) (by rfl) (by rfl) (fun w29 (H : Sep ok w w29 [.blk b5 76 [.slice A24 v22.Slots.length cp25], HNB b7 a1, .blk b9 76 [.slice none 0 0], .row (.slice A24 v22.Slots.length cp25) 96 k_Slot.sz v22.Slots.length cs26] [RE.rd k_Slot A1 cp2 a0.Slots, RE.chunks k_Slot cs26 v22.Slots]) => ?_))
   refine RL_nil ?_
   refine W_seq ?_
   refine W_region ?_
   refine RL_p (x_fieldAddr fo76_0 (by rfl)) ?_
   refine RL_p (x_load (j := 0) (v := .slice A24 v22.Slots.length cp25) sc74 (by rfl) (H.cells (i := 0) (by rfl)) (by rfl)) ?_
   refine RL_p (x_fieldAddr fo81_0 (by rfl)) ?_
   refine RL_p (x_load (j := 0) (v := .int .i64 a1.Slot) sc3 (by rfl) (H.cells (i := 1) (by rfl)) (by rfl)) ?_
   obtain ⟨el30, h31, h32, he33, hm⟩ := idx_some hm
   obtain ⟨g35, _, hA34, _, _⟩ := H.rowIdx (i := 3) (j := 1) (by rfl) (by rfl) he33
   refine RL_p (x_indexAddr sl74 sz96 (by rfl) (by rfl) hA34 h31 h32) ?_
   refine RL_p (x_fieldAddr fo96_1 (by rfl)) ?_
   obtain ⟨l39, hl40, hm⟩ := lete_some hm
   refine RL_cons (O_storeRow (D := k_Slot) (i := 3) (j := 1) (off := 1) (m := a1.Slot) (a := el30) (b := (⟨el30.Gen, false⟩ : S_Slot)) (vs := [.bool false]) (by exact wn0 rfl) H (by rfl) (by rfl) hA34 (by rfl) (by rfl) he33 (by rfl) sz4 (by rfl) (by rfl) (by intro ce hce; obtain rfl := hce; rfl) hl40 (fun w37 cs38 (H : Sep ok w w37 [.blk b5 76 [.slice A24 v22.Slots.length cp25], HNB b7 a1, .blk b9 76 [.slice none 0 0], .row (.slice A24 l39.length cp25) 96 k_Slot.sz l39.length cs38] [RE.rd k_Slot A1 cp2 a0.Slots, RE.chunks k_Slot cs38 l39]) => ?_))
   refine RL_nil ?_
   have hn41 : v22.Slots.length = l39.length := by rw [← hl40]; exact (List.length_set ..).symm
   have H : Sep ok w w37 [.blk b5 76 [.slice A24 l39.length cp25], HNB b7 a1, .blk b9 76 [.slice none 0 0], .row (.slice A24 l39.length cp25) 96 k_Slot.sz l39.length cs38] [RE.rd k_Slot A1 cp2 a0.Slots, RE.chunks k_Slot cs38 l39] := by (try rw [hn41] at H); exact H
   refine W_regen (l := [(2, .pointer (some ⟨b5, 0, none⟩)), (4, .pointer (some ⟨b9, 0, none⟩))]) ⟨rfl, rfl, trivial⟩ fun r42 => ?_
   refine W_seq ?_
   refine W_region ?_
   refine RL_p (x_loadA (j := 0) (vs := [.slice A24 l39.length cp25]) ag76 (by rfl) (H.cells (i := 0) (by rfl)) (by rfl) (by rfl)) ?_
   refine RL_cons (O_store (i := 2) (off := 0) (by exact wn0 rfl) (by rfl) (by rfl) H (by rfl) (vs := [.slice A24 l39.length cp25]) (by rfl) sz76 (by rfl) (by rfl) (by rfl) (fun w43 (H : Sep ok w w43 [.blk b5 76 [.slice A24 l39.length cp25], HNB b7 a1, .blk b9 76 [.slice A24 l39.length cp25], .row (.slice A24 l39.length cp25) 96 k_Slot.sz l39.length cs38] [RE.rd k_Slot A1 cp2 a0.Slots, RE.chunks k_Slot cs38 l39]) => ?_))
   refine RL_p (x_assign (v := .int .i64 0) (by rfl)) ?_
   refine RL_nil ?_
   refine W_ret ?_
   have H : Sep ok w w43 [.blk b5 76 [.slice A24 l39.length cp25], HNB b7 a1, .blk b9 76 [.slice A24 l39.length cp25], .hole] [RE.rd k_Slot A1 cp2 a0.Slots, RE.fr w.heap.size k_Slot A24 cp25 l39] := H.frozenF hno (fun _ _ _ _ _ _ h => h) (i := 3) (j := 1) (by rfl) (by rfl)
   obtain rfl := Option.some.inj hm
   exact ⟨[.agg #[.slice A24 l39.length cp25], .int .i64 0], (.cellA (by rfl) ag76 (H.cells (i := 2) (by rfl)) (by rfl) (.tmp (by rfl) rfl)), A24, cp25, rfl, (H.forgetAll).pick [1]⟩
end Go.Proofs.YtobkigllalbkiaaV.M

/- A plain Lean function that answers as the Go function does (none: not told), and the proof that a call answers so. Written by program. -/
set_option linter.unusedVariables false
namespace Go.Proofs.YtobkigllalbkiaaV.M
open Go.RowKit Go.Proofs.YtobkigllalbkiaaV
/-- diorama/nodes.Kill$1 -/
def m85 (K : Nat) (a0 : S_Handle) (f0 : S_Handle) : Option (Bool) :=
 some ((a0.Slot == f0.Slot) && (a0.Gen == f0.Gen))
set_option maxRecDepth 100000 in
set_option maxHeartbeats 4000000 in
theorem c85 (ok : Okp) (K : Nat) (w : World) (a0 : S_Handle) (f0 : S_Handle) (g1 : Nat) (hF2 : (RE.cells g1 (0) [.int .i64 f0.Slot, .int .i64 f0.Gen]).rel w ok) (res : Bool) (hm : m85 K a0 f0 = some res) :
  Calls Try.prog 85 #[.agg #[.int .i64 a0.Slot, .int .i64 a0.Gen], .pointer (some ⟨g1, 0, none⟩)] w (fun e w' => e = .returned (tup [.bool res]) ∧ Sep ok w w' [] []) := by
 refine calls_W (args := [.agg #[.int .i64 a0.Slot, .int .i64 a0.Gen], .pointer (some ⟨g1, 0, none⟩)]) Try.func85 rfl Try.ntmps85 Try.results85 rfl fun r hr => ?_
 obtain ⟨r1, rfl⟩ := regen (r := r) [(0, .agg #[.int .i64 a0.Slot, .int .i64 a0.Gen]), (1, .pointer (some ⟨g1, 0, none⟩))] ⟨hr 0 _ rfl, hr 1 _ rfl, trivial⟩
 have H : Sep ok w w [] [RE.cells g1 (0) [.int .i64 f0.Slot, .int .i64 f0.Gen]] := Sep.arg (Sep.start ok w) (re := RE.cells g1 (0) [.int .i64 f0.Slot, .int .i64 f0.Gen]) rfl rfl hF2
 unfold m85 at hm
 refine W_seq ?_
 refine W_region ?_
 refine RL_cons (O_box (by exact wn0 rfl) (by rfl) (by rfl) (by rfl) H (fun w5 b4 (H : Sep ok w w5 [HNB b4 a0] [RE.cells g1 (0) [.int .i64 f0.Slot, .int .i64 f0.Gen]]) => ?_))
 refine RL_p (x_assign (v := .bool false) (by rfl)) ?_
 refine RL_nil ?_
 refine W_seq ?_
 refine W_region ?_
 refine RL_p (x_loadA (j := 0) (vs := [.int .i64 a0.Slot, .int .i64 a0.Gen]) ag81 (by rfl) (H.cells (i := 0) (by rfl)) (by rfl) (by rfl)) ?_
 refine RL_p (x_loadA (j := 0) (vs := [.int .i64 f0.Slot, .int .i64 f0.Gen]) ag81 (by rfl) (H.cellsR (i := 0) (by rfl)) (by rfl) (by rfl)) ?_
 refine RL_p (x_eqls ep81 eg81 (by rfl) (by rfl) (b := ((a0.Slot == f0.Slot) && (a0.Gen == f0.Gen))) (by rfl)) ?_
 refine RL_p (x_assign (v := .bool ((a0.Slot == f0.Slot) && (a0.Gen == f0.Gen))) (by rfl)) ?_
 refine RL_nil ?_
 refine W_ret ?_
 obtain rfl := Option.some.inj hm
 exact ⟨[.bool ((a0.Slot == f0.Slot) && (a0.Gen == f0.Gen))], (.tmp (by rfl) rfl), rfl, H.none_⟩
end Go.Proofs.YtobkigllalbkiaaV.M

/- A plain Lean function that answers as the Go function does (none: not told), and the proof that a call answers so. Written by program. -/
set_option linter.unusedVariables false
namespace Go.Proofs.YtobkigllalbkiaaV.M
open Go.RowKit Go.Proofs.YtobkigllalbkiaaV
theorem find_split {α : Type} (p : α → Bool) : ∀ l : List α, (l.findIdx? p = none → l.filter (fun x => !p x) = l) ∧ ∀ k, l.findIdx? p = some k → k < l.length ∧ (l.take (k + 1)).filter (fun x => !p x) = l.take k
 | [] => ⟨fun _ => rfl, fun k h => by simp at h⟩
 | x :: xs => by
  have ih := find_split p xs
  rw [List.findIdx?_cons]
  by_cases hx : p x = true
  ·refine ⟨fun h => by simp [hx] at h, fun k h => ?_⟩
   simp [hx] at h; subst h
   simp [hx]
  ·simp only [Bool.not_eq_true] at hx
   refine ⟨fun h => ?_, fun k h => ?_⟩
   ·simp [hx] at h
    simp only [List.filter_cons, hx, Bool.not_false, if_true]
    rw [ih.1 (by simpa [List.findIdx?_eq_none_iff] using h)]
   ·simp [hx] at h
    obtain ⟨m, hm, rfl⟩ := h
    have := ih.2 m hm
    refine ⟨by simp; omega, ?_⟩
    rw [List.take_succ_cons, List.take_succ_cons, List.filter_cons, this.2]
    simp [hx]
theorem anyS_pure {α : Type} (p : α → Bool) : ∀ (l : List α) (i : Int), anyS (fun (_ : Unit) x => some (p x, ())) () i l = some ((match l.findIdx? p with | some k => i + k | none => -1), ())
 | [], i => rfl
 | x :: xs, i => by
  unfold anyS
  rw [List.findIdx?_cons]
  by_cases hx : p x = true
  ·simp [hx]
  ·simp only [Bool.not_eq_true] at hx
   simp only [Option.bind_some, hx, cond_false, Bool.false_eq_true, if_false]
   rw [anyS_pure p xs (i + 1)]
   cases xs.findIdx? p with
   | none => rfl
   | some k =>
    have e : i + 1 + (k : Int) = i + ((k + 1 : Nat) : Int) := by omega
    exact congrArg (fun z => some (z, ())) e
def eqH (h x : S_Handle) : Bool := (x.Slot == h.Slot) && (x.Gen == h.Gen)
set_option maxRecDepth 100000 in
set_option maxHeartbeats 4000000 in
/-- slices.DeleteFunc, of a row that is handed over, with the test of Kill: all but a handle. -/
theorem c84 (ok : Okp) (K : Nat) (w0 w : World) (a0 : List S_Handle) (A : Option Addr) (c : Nat) (cs : List Value) (h : S_Handle) (g : Nat) (H : Sep ok w0 w [.row (.slice A a0.length c) 81 k_Handle.sz a0.length cs] [RE.chunks k_Handle cs a0, RE.cells g 0 [.int .i64 h.Slot, .int .i64 h.Gen]])
  (res : List S_Handle) (hres : a0.filter (fun x => !eqH h x) = res) :
  Calls Try.prog 84 #[.slice A a0.length c, .func (.func 85) #[] #[.pointer (some ⟨g, 0, none⟩)]] w (fun e w' => ∃ (A' : Option Addr) (c' : Nat) (cs' : List Value), e = .returned (tup [.slice A' res.length c']) ∧ Sep ok w0 w' [.row (.slice A' res.length c') 81 k_Handle.sz res.length cs'] [RE.chunks k_Handle cs' res]) := by
 refine calls_W (args := [.slice A a0.length c, .func (.func 85) #[] #[.pointer (some ⟨g, 0, none⟩)]]) Try.func84 rfl Try.ntmps84 Try.results84 rfl fun r hr => ?_
 obtain ⟨r1, rfl⟩ := regen (r := r) [(0, .slice A a0.length c), (1, .func (.func 85) #[] #[.pointer (some ⟨g, 0, none⟩)])] ⟨hr 0 _ rfl, hr 1 _ rfl, trivial⟩
 obtain ⟨hac, hA⟩ := H.rowForm (i := 0) (by rfl)
 have hmx : c ≤ 9223372036854775807 := by
  rcases hA with ⟨_, _, rfl⟩ | ⟨g', rfl⟩
  ·omega
  ·obtain ⟨_, _, _, _, hcm, _⟩ := H.rowRaw (i := 0) (by rfl)
   simp only [maxLen] at hcm; omega
 have hcell : ∀ {wS : World} {l : List S_Handle} {cs' : List Value} {L : List Ent}, Sep ok w0 wS L [RE.chunks k_Handle cs' l, RE.cells g 0 [.int .i64 h.Slot, .int .i64 h.Gen]] → (RE.cells g 0 [.int .i64 h.Slot, .int .i64 h.Gen]).rel wS okT := by
  intro wS l cs' L H
  have hq : (RE.cells g 0 [.int .i64 h.Slot, .int .i64 h.Gen]).rel wS _ := H.rds 1 _ (by rfl)
  obtain ⟨⟨ob, ho, _⟩, hc⟩ := hq
  exact ⟨⟨ob, ho, trivial⟩, hc⟩
 refine W_seq ?_
 refine W_region ?_
 refine RL_pure (by exact wn0 rfl) (by rfl) (by rfl) (x_assign (v := .slice none 0 0) (by rfl)) ?_
 refine RL_nil ?_
 refine W_seq ?_
 refine W_region ?_
 refine RL_pure (by exact wn0 rfl) (by rfl) (by rfl) (x_move (v := .slice A a0.length c) (by rfl)) ?_
 refine RL_pure (by exact wn0 rfl) (by rfl) (by rfl) (x_move (v := .func (.func 85) #[] #[.pointer (some ⟨g, 0, none⟩)]) (by rfl)) ?_
 refine RL_cons (O_call (by exact wn0 rfl) (by rfl) (by rfl) (x_callL (by rfl) (args := [.slice A a0.length c, .func (.func 85) #[] #[.pointer (some ⟨g, 0, none⟩)]]) (by rfl) (cf121 _ _))
  (c121 (fun (_ : Unit) wS => Sep ok w0 wS [.row (.slice A a0.length c) 81 k_Handle.sz a0.length cs] [RE.chunks k_Handle cs a0, RE.cells g 0 [.int .i64 h.Slot, .int .i64 h.Gen]]) (fun (_ : Unit) x => some (eqH h x, ())) 85 [] [.pointer (some ⟨g, 0, none⟩)] a0 A c
   (fun _ wS (H : Sep ok w0 wS [.row (.slice A a0.length c) 81 k_Handle.sz a0.length cs] [RE.chunks k_Handle cs a0, RE.cells g 0 [.int .i64 h.Slot, .int .i64 h.Gen]]) => H.rowRd (i := 0) (j := 0) (by rfl) (by rfl)) cf85
   (fun _ wS x q (H : Sep ok w0 wS [.row (.slice A a0.length c) 81 k_Handle.sz a0.length cs] [RE.chunks k_Handle cs a0, RE.cells g 0 [.int .i64 h.Slot, .int .i64 h.Gen]]) hq => by
    obtain rfl := Option.some.inj hq
    exact (c85 okT K wS x h g (hcell H) (eqH h x) rfl).mono fun e w_ h => ⟨h.1, H.below h.2.base⟩) () w H _ (anyS_pure (eqH h) a0 0)) ?_)
 rintro e w2 ⟨rfl, H⟩
 have H : Sep ok w0 w2 [.row (.slice A a0.length c) 81 k_Handle.sz a0.length cs] [RE.chunks k_Handle cs a0, RE.cells g 0 [.int .i64 h.Slot, .int .i64 h.Gen]] := H
 obtain ⟨hn0, hsplit⟩ := find_split (eqH h) a0
 obtain ⟨q, hq⟩ : ∃ q : Int, q = (match a0.findIdx? (eqH h) with | some k => 0 + (k : Int) | none => -1) := ⟨_, rfl⟩
 rw [← hq]
 refine ⟨_, rfl, ?_⟩
 show RL _ _ _ _ _ _ _
 refine RL_pure (by exact wn0 rfl) (by rfl) (by rfl) (x_assign (v := .int .i64 q) (by rfl)) ?_
 refine RL_nil ?_
 refine W_seq ?_
 refine W_seq ?_
 refine W_region ?_
 refine RL_pure (by exact wn0 rfl) (by rfl) (by rfl) (x_move (v := .int .i64 q) (by rfl)) ?_
 refine RL_pure (by exact wn0 rfl) (by rfl) (by rfl) (x_eql (by rfl) (by rfl)) ?_
 refine RL_nil ?_
 refine W_cond (by rfl) (fun hb => ?_) (fun hb => ?_)
 ·have hq1 : q = -1 := by simpa using hb
  have hnone : a0.findIdx? (eqH h) = none := by
   cases hf : a0.findIdx? (eqH h) with
   | none => rfl
   | some k => rw [hf] at hq; simp at hq; omega
  have hra : res = a0 := by rw [← hres]; exact hn0 hnone
  subst hra
  refine W_seq ?_
  refine W_region ?_
  refine RL_pure (by exact wn0 rfl) (by rfl) (by rfl) (x_move (v := .slice A res.length c) (by rfl)) ?_
  refine RL_pure (by exact wn0 rfl) (by rfl) (by rfl) (x_assign (v := .slice A res.length c) (by rfl)) ?_
  refine RL_nil ?_
  refine W_ret ?_
  exact ⟨[.slice A res.length c], (.tmp (by rfl) rfl), A, c, cs, rfl, H.pick [0]⟩
 have hq1 : q ≠ -1 := by simpa using hb
 obtain ⟨k0, hf⟩ : ∃ k0, a0.findIdx? (eqH h) = some k0 := by
  cases hf : a0.findIdx? (eqH h) with
  | none => rw [hf] at hq; exact absurd hq hq1
  | some k => exact ⟨k, rfl⟩
 obtain ⟨hk0, hpre⟩ := hsplit k0 hf
 have hqk : q = (k0 : Int) := by rw [hq, hf]; simp
 subst hqk
 refine W_skip ?_
 refine W_seq ?_
 refine W_seq ?_
 refine W_region ?_
 have hw1 : IntKind.i64.wrap ((k0 : Int) + 1) = ((k0 + 1 : Nat) : Int) := by rw [wrap_i64_in (by omega)]; push_cast; rfl
 refine RL_pure (by exact wn0 rfl) (by rfl) (by rfl) (x_move (v := .int .i64 (k0 : Int)) (by rfl)) ?_
 refine RL_pure (by exact wn0 rfl) (by rfl) (by rfl) (x_add (by rfl) (by rfl) hw1) ?_
 refine RL_pure (by exact wn0 rfl) (by rfl) (by rfl) (x_assign (v := .int .i64 ((k0 + 1 : Nat) : Int)) (by rfl)) ?_
 refine RL_nil ?_
 refine W_block ?_
 refine W_loop (fun k r' w' => ∃ (l : List S_Handle) (i j : Nat) (cs' : List Value), l.length = a0.length ∧ i < j ∧ j ≤ a0.length ∧ a0.length < j + k ∧ l.take i = (a0.take j).filter (fun x => !eqH h x) ∧ l.drop j = a0.drop j ∧
  Agr [(0, .slice A l.length c), (1, .func (.func 85) #[] #[.pointer (some ⟨g, 0, none⟩)]), (5, .int .i64 (i : Int)), (6, .int .i64 (j : Int))] r' ∧ Sep ok w0 w' [.row (.slice A l.length c) 81 k_Handle.sz l.length cs'] [RE.chunks k_Handle cs' l, RE.cells g 0 [.int .i64 h.Slot, .int .i64 h.Gen]]) (a0.length + 1) ?_ ?_
 ·exact ⟨a0, k0, k0 + 1, cs, rfl, by omega, by omega, by omega, hpre.symm, rfl, ⟨rfl, rfl, rfl, rfl, trivial⟩, H⟩
 rintro k r' w' ⟨l, i, j, cs', hll, hij, hj, hjk, htk, hdr, hAg, H⟩
 obtain ⟨r5, rfl⟩ := regen _ hAg; clear hAg
 obtain ⟨w6, rfl⟩ : ∃ W : World, W = w' := ⟨_, rfl⟩
 refine W_seq ?_
 refine W_seq ?_
 refine W_region ?_
 refine RL_pure (by exact wn0 rfl) (by rfl) (by rfl) (x_move (v := .int .i64 (j : Int)) (by rfl)) ?_
 refine RL_pure (by exact wn0 rfl) (by rfl) (by rfl) (x_move (v := .slice A l.length c) (by rfl)) ?_
 refine RL_pure (by exact wn0 rfl) (by rfl) (by rfl) (x_len sl87 (by rfl)) ?_
 refine RL_pure (by exact wn0 rfl) (by rfl) (by rfl) (x_lss (by rfl) (by rfl)) ?_
 refine RL_nil ?_
 refine W_cond (by rfl) (fun hb => ?_) (fun hb => ?_)
 ·have hlt : j < l.length := by have := of_decide_eq_true hb; omega
  have he : l[((j : Int)).toNat]? = some l[j] := by simp
  have hxa : a0[j]? = some l[j] := by
   have h1 : (l.drop j)[0]? = (a0.drop j)[0]? := by rw [hdr]
   simpa [List.getElem?_drop, hlt] using h1.symm
  have hdj : ∀ y, (l.set i y).drop (j + 1) = a0.drop (j + 1) := fun y => by
   rw [List.drop_set_of_lt (by omega)]
   have h1 : (l.drop j).drop 1 = (a0.drop j).drop 1 := by rw [hdr]
   simpa [List.drop_drop, Nat.add_comm] using h1
  have hdj0 : l.drop (j + 1) = a0.drop (j + 1) := by
   have h1 : (l.drop j).drop 1 = (a0.drop j).drop 1 := by rw [hdr]
   simpa [List.drop_drop, Nat.add_comm] using h1
  generalize l[j] = x at he hxa
  have hta : a0.take (j + 1) = a0.take j ++ [x] := by rw [List.take_add_one, hxa]; rfl
  have hw2 : IntKind.i64.wrap ((j : Int) + 1) = ((j + 1 : Nat) : Int) := by rw [wrap_i64_in (by omega)]; push_cast; rfl
  refine W_skip ?_
  refine W_seq ?_
  refine W_block ?_
  refine W_seq ?_
  refine W_region ?_
  refine RL_pure (by exact wn0 rfl) (by rfl) (by rfl) (x_move (v := .slice A l.length c) (by rfl)) ?_
  refine RL_pure (by exact wn0 rfl) (by rfl) (by rfl) (x_move (v := .int .i64 (j : Int)) (by rfl)) ?_
  obtain ⟨gr, _, hAr, _, _⟩ := H.rowIdx (i := 0) (j := 0) (by rfl) (by rfl) he
  refine RL_pure (by exact wn0 rfl) (by rfl) (by rfl) (x_indexAddr sl87 sz81 (by rfl) (by rfl) hAr (by omega) (by omega)) ?_
  refine RL_pure (by exact wn0 rfl) (by rfl) (by rfl) (x_loadA (j := 0) (vs := [.int .i64 x.Slot, .int .i64 x.Gen]) ag81 (by rfl) (H.rowFlatAt (n := 2) (i := 0) (j := 0) (by rfl) (by rfl) hAr he) (by rfl) (by rfl)) ?_
  refine RL_cons (O_alloc (by exact wn0 rfl) (by rfl) ze81 (by rfl) H (fun w8 b8 (H : Sep ok w0 w8 [.row (.slice A l.length c) 81 k_Handle.sz l.length cs', .blk b8 81 [.int .i64 0, .int .i64 0]] [RE.chunks k_Handle cs' l, RE.cells g 0 [.int .i64 h.Slot, .int .i64 h.Gen]]) => ?_))
  refine RL_cons (O_store (i := 1) (off := 0) (by exact wn0 rfl) (by rfl) (by rfl) H (by rfl) (vs := [.int .i64 x.Slot, .int .i64 x.Gen]) (by rfl) sz81 (by rfl) (by rfl) (by rfl) (fun w9 (H : Sep ok w0 w9 [.row (.slice A l.length c) 81 k_Handle.sz l.length cs', .blk b8 81 [.int .i64 x.Slot, .int .i64 x.Gen]] [RE.chunks k_Handle cs' l, RE.cells g 0 [.int .i64 h.Slot, .int .i64 h.Gen]]) => ?_))
  refine RL_nil ?_
  refine W_seq ?_
  refine W_region ?_
  refine RL_pure (by exact wn0 rfl) (by rfl) (by rfl) (x_move (v := .func (.func 85) #[] #[.pointer (some ⟨g, 0, none⟩)]) (by rfl)) ?_
  refine RL_pure (by exact wn0 rfl) (by rfl) (by rfl) (x_loadA (j := 0) (vs := [.int .i64 x.Slot, .int .i64 x.Gen]) ag81 (by rfl) (H.cells (i := 1) (by rfl)) (by rfl) (by rfl)) ?_
  refine RL_cons (O_call (by exact wn0 rfl) (by rfl) (by rfl) (x_callL (by rfl) (args := [.agg #[.int .i64 x.Slot, .int .i64 x.Gen], .pointer (some ⟨g, 0, none⟩)]) (by rfl) (cf85 _ _)) (c85 okT K w9 x h g (hcell H) (eqH h x) rfl) ?_)
  rintro e w10 ⟨rfl, H2⟩
  have H : Sep ok w0 w10 [.row (.slice A l.length c) 81 k_Handle.sz l.length cs', .blk b8 81 [.int .i64 x.Slot, .int .i64 x.Gen]] [RE.chunks k_Handle cs' l, RE.cells g 0 [.int .i64 h.Slot, .int .i64 h.Gen]] := H.below H2.base
  clear H2
  refine ⟨_, rfl, ?_⟩
  show RL _ _ _ _ _ _ _
  refine RL_pure (by exact wn0 rfl) (by rfl) (by rfl) (x_not (by rfl)) ?_
  refine RL_nil ?_
  refine W_cond (by rfl) (fun hb2 => ?_) (fun hb2 => ?_)
  ·have hk : (!eqH h x) = true := hb2
   refine W_seq ?_
   refine W_region ?_
   refine RL_pure (by exact wn0 rfl) (by rfl) (by rfl) (x_move (v := .slice A l.length c) (by rfl)) ?_
   refine RL_pure (by exact wn0 rfl) (by rfl) (by rfl) (x_move (v := .int .i64 (i : Int)) (by rfl)) ?_
   refine RL_pure (by exact wn0 rfl) (by rfl) (by rfl) (x_loadA (j := 0) (vs := [.int .i64 x.Slot, .int .i64 x.Gen]) ag81 (by rfl) (H.cells (i := 1) (by rfl)) (by rfl) (by rfl)) ?_
   have hei : l[((i : Int)).toNat]? = some (l[i]'(by omega)) := by simp
   generalize l[i]'(by omega) = y at hei
   obtain ⟨gi, _, hAi, _, _⟩ := H.rowIdx (i := 0) (j := 0) (by rfl) (by rfl) hei
   refine RL_pure (by exact wn0 rfl) (by rfl) (by rfl) (x_indexAddr sl87 sz81 (by rfl) (by rfl) hAi (by omega) (by omega)) ?_
   obtain ⟨l2, hl2⟩ : ∃ l2, l.set ((i : Int)).toNat x = l2 := ⟨_, rfl⟩
   refine RL_cons (O_storeRow (D := k_Handle) (i := 0) (j := 0) (off := 0) (m := (i : Int)) (a := y) (b := x) (vs := [.int .i64 x.Slot, .int .i64 x.Gen]) (by exact wn0 rfl) H (by rfl) (by rfl) hAi (by rfl) (by rfl) hei (by rfl) sz81 (by rfl) (by rfl) (by intro ce hce; obtain rfl := hce; rfl) hl2 (fun w11 cs3 (H : Sep ok w0 w11 [.row (.slice A l2.length c) 81 k_Handle.sz l2.length cs3, .blk b8 81 [.int .i64 x.Slot, .int .i64 x.Gen]] [RE.chunks k_Handle cs3 l2, RE.cells g 0 [.int .i64 h.Slot, .int .i64 h.Gen]]) => ?_))
   refine RL_nil ?_
   refine W_region ?_
   have hw3 : IntKind.i64.wrap ((i : Int) + 1) = ((i + 1 : Nat) : Int) := by rw [wrap_i64_in (by omega)]; push_cast; rfl
   refine RL_pure (by exact wn0 rfl) (by rfl) (by rfl) (x_move (v := .int .i64 (i : Int)) (by rfl)) ?_
   refine RL_pure (by exact wn0 rfl) (by rfl) (by rfl) (x_add (by rfl) (by rfl) hw3) ?_
   refine RL_pure (by exact wn0 rfl) (by rfl) (by rfl) (x_assign (v := .int .i64 ((i + 1 : Nat) : Int)) (by rfl)) ?_
   refine RL_nil ?_
   refine W_region ?_
   refine RL_pure (by exact wn0 rfl) (by rfl) (by rfl) (x_move (v := .int .i64 (j : Int)) (by rfl)) ?_
   refine RL_pure (by exact wn0 rfl) (by rfl) (by rfl) (x_add (by rfl) (by rfl) hw2) ?_
   refine RL_pure (by exact wn0 rfl) (by rfl) (by rfl) (x_assign (v := .int .i64 ((j + 1 : Nat) : Int)) (by rfl)) ?_
   refine RL_nil ?_
   simp only [Int.toNat_natCast] at hl2
   have hlen2 : l2.length = l.length := by rw [← hl2, List.length_set]
   refine ⟨k - 1, by omega, l2, i + 1, j + 1, cs3, by omega, by omega, by omega, by omega, ?_, by rw [← hl2]; exact hdj x, ⟨by rw [hlen2]; rfl, rfl, rfl, rfl, trivial⟩, H.takeL 1⟩
   rw [hta, List.filter_append, ← htk, ← hl2]
   have hi2 : i < (l.set i x).length := by rw [List.length_set]; omega
   rw [List.take_add_one, List.getElem?_set_self (by omega), List.take_set_of_le (Nat.le_refl _)]
   simp [hk]
  ·have hk : (!eqH h x) = false := hb2
   refine W_skip ?_
   refine W_region ?_
   refine RL_pure (by exact wn0 rfl) (by rfl) (by rfl) (x_move (v := .int .i64 (j : Int)) (by rfl)) ?_
   refine RL_pure (by exact wn0 rfl) (by rfl) (by rfl) (x_add (by rfl) (by rfl) hw2) ?_
   refine RL_pure (by exact wn0 rfl) (by rfl) (by rfl) (x_assign (v := .int .i64 ((j + 1 : Nat) : Int)) (by rfl)) ?_
   refine RL_nil ?_
   refine ⟨k - 1, by omega, l, i, j + 1, cs', by omega, by omega, by omega, by omega, ?_, hdj0, ⟨rfl, rfl, rfl, rfl, trivial⟩, H.takeL 1⟩
   rw [hta, List.filter_append, ← htk]
   simp [hk]
 ·have hge : ¬ j < l.length := by have := of_decide_eq_false hb; omega
  have hjn : j = a0.length := by omega
  have hlr : l.take i = res := by rw [htk, hjn, List.take_length, hres]
  have hrl : res.length = i := by rw [← hlr, List.length_take]; omega
  refine W_exit ?_
  refine W_seq ?_
  refine W_region ?_
  refine RL_pure (by exact wn0 rfl) (by rfl) (by rfl) (x_move (v := .slice A l.length c) (by rfl)) ?_
  refine RL_pure (by exact wn0 rfl) (by rfl) (by rfl) (x_move (v := .int .i64 (i : Int)) (by rfl)) ?_
  refine RL_pure (by exact wn0 rfl) (by rfl) (by rfl) (x_slice_lo (sz := k_Handle.sz) (A := A) (n := l.length) (c := c) (k := .i64) (j := (i : Int)) sl87 sz81 (by rfl) (by rfl) (by omega) (by omega)) ?_
  have H := H.rowShrink (i := 0) (j := 0) (m := i) (by rfl) (by rfl) hlr (by omega)
  have H : Sep ok w0 w6 [.row (.slice A res.length c) 81 k_Handle.sz res.length (cs'.take (i * k_Handle.sz))] [RE.chunks k_Handle (cs'.take (i * k_Handle.sz)) res, RE.cells g 0 [.int .i64 h.Slot, .int .i64 h.Gen]] := H
  refine RL_cons (O_clearPast (D := k_Handle) (i := 0) (j := 0) (xs := res) (A := A) (lo := i) (x0 := (⟨0, 0⟩ : S_Handle)) (by exact wn0 rfl) (by rfl) rfl H (by rfl) (by rfl) (by omega) (by simp only [Int.toNat_natCast]; omega) sl87 ze81 (by rfl) (fun _ _ => rfl) (fun w7 (H : Sep ok w0 w7 [.row (.slice A res.length c) 81 k_Handle.sz res.length (cs'.take (i * k_Handle.sz))] [RE.chunks k_Handle (cs'.take (i * k_Handle.sz)) res, RE.cells g 0 [.int .i64 h.Slot, .int .i64 h.Gen]]) => ?_))
  refine RL_nil ?_
  refine W_seq ?_
  refine W_region ?_
  refine RL_pure (by exact wn0 rfl) (by rfl) (by rfl) (x_move (v := .slice A l.length c) (by rfl)) ?_
  refine RL_pure (by exact wn0 rfl) (by rfl) (by rfl) (x_move (v := .int .i64 (i : Int)) (by rfl)) ?_
  refine RL_pure (by exact wn0 rfl) (by rfl) (by rfl) (x_slice_hi (sz := k_Handle.sz) (A := A) (n := l.length) (c := c) (k := .i64) (j := (i : Int)) sl87 sz81 (by rfl) (by rfl) (by omega) (by omega)) ?_
  have hA0 : slA A c 0 k_Handle.sz = A := (H.rowA0 (i := 0) (by rfl)).symm
  rw [hA0, Int.toNat_natCast, ← hrl]
  refine RL_pure (by exact wn0 rfl) (by rfl) (by rfl) (x_assign (v := .slice A res.length c) (by rfl)) ?_
  refine RL_nil ?_
  refine W_ret ?_
  exact ⟨[.slice A res.length c], (.tmp (by rfl) rfl), A, c, _, rfl, H.pick [0]⟩
end Go.Proofs.YtobkigllalbkiaaV.M

/- A plain Lean function that answers as the Go function does (none: not told), and the proof that a call answers so. Written by program. -/
set_option linter.unusedVariables false
namespace Go.Proofs.YtobkigllalbkiaaV.M
open Go.RowKit Go.Proofs.YtobkigllalbkiaaV
theorem set_filter {α : Type} {l : List (List α)} {i : Nat} {x : List α} (F : List α → List α) (h : l[i]? = some x) : ((l.take i).map F ++ l.drop i).set i (F x) = (l.take (i + 1)).map F ++ l.drop (i + 1) := by
 have hi : i < l.length := (List.getElem?_eq_some_iff.1 h).1
 have hx : l[i] = x := (List.getElem?_eq_some_iff.1 h).2
 rw [List.set_append_right _ _ (by simp; omega), List.drop_eq_getElem_cons hi, List.take_succ_eq_append_getElem hi, hx]
 simp only [List.length_map, List.length_take, Nat.min_eq_left (Nat.le_of_lt hi), Nat.sub_self, List.set_cons_zero, List.map_append, List.map_cons, List.map_nil, List.append_assoc, List.cons_append, List.nil_append]
/-- Kill, behind its call of Twin -/
def tl40 (K : Nat) (a0 : S_Graph) (a1 : S_Handle) : Option (S_Graph × Int) :=
 (m53 K a0).bind fun v => (m83 K v.Arena a1).bind fun v2 => if 0 ≤ a1.Slot ∧ a1.Slot < (v.Kids.length : Int) ∧ v.Kids.length < 9223372036854775807 then some ((⟨v2.1, (v.Kids.set a1.Slot.toNat []).map (fun l => l.filter fun x => !eqH a1 x)⟩ : S_Graph), 0) else none
/-- diorama/nodes.Kill -/
def m40 (K : Nat) (a0 : S_Graph) (a1 : S_Handle) : Option (S_Graph × Int) :=
 ((m79 K a0 ([a1])).bind fun v20 => (bif (v20 != 0) then some ((⟨(⟨[]⟩ : S_Arena), []⟩ : S_Graph), v20) else (tl40 K a0 a1)))
set_option maxRecDepth 100000 in
set_option maxHeartbeats 4000000 in
theorem c40n (ok : Okp) (hno : ∀ k, ¬ ok.wr k) (K : Nat) (w : World) (a0 : S_Graph) (A1 : Option Addr) (cp2 : Nat) (A5 : Option Addr) (cp6 : Nat) (a1 : S_Handle) (hR3 : Rd k_Slot w ok A1 cp2 a0.Arena.Slots) (hR7 : Rd (Kd.slice k_Handle) w ok A5 cp6 a0.Kids) (res : S_Graph × Int) (hm : m40 K a0 a1 = some res) :
  Calls Try.prog 40 #[.agg #[.slice A1 a0.Arena.Slots.length cp2, .slice A5 a0.Kids.length cp6], .agg #[.int .i64 a1.Slot, .int .i64 a1.Gen]] w (fun e w' => ∃ (A0_ : Option Addr) (c0_ : Nat), ∃ (A1_ : Option Addr) (c1_ : Nat), e = .returned (tup [.agg #[.slice A0_ res.1.Arena.Slots.length c0_, .slice A1_ res.1.Kids.length c1_], .int .i64 res.2]) ∧ Sep ok w w' [] [FRS w A0_ c0_ res.1, FRK w A1_ c1_ res.1]) := by
 refine calls_W (args := [.agg #[.slice A1 a0.Arena.Slots.length cp2, .slice A5 a0.Kids.length cp6], .agg #[.int .i64 a1.Slot, .int .i64 a1.Gen]]) Try.func40 rfl Try.ntmps40 Try.results40 rfl fun r hr => ?_
 obtain ⟨r1, rfl⟩ := regen (r := r) [(0, .agg #[.slice A1 a0.Arena.Slots.length cp2, .slice A5 a0.Kids.length cp6]), (1, .agg #[.int .i64 a1.Slot, .int .i64 a1.Gen])] ⟨hr 0 _ rfl, hr 1 _ rfl, trivial⟩
 have H : Sep ok w w [] [RDS A1 cp2 a0, RDK A5 cp6 a0] := Sep.arg (Sep.arg (Sep.start ok w) (re := RE.rd k_Slot A1 cp2 a0.Arena.Slots) rfl rfl hR3) (re := RE.rd (Kd.slice k_Handle) A5 cp6 a0.Kids) rfl rfl hR7
 unfold m40 at hm
 refine W_seq ?_
 refine W_region ?_
 refine RL_cons (O_box (by exact wn0 rfl) (by rfl) (by rfl) (by rfl) H (fun w10 b9 (H : Sep ok w w10 [GRB b9 A1 cp2 A5 cp6 a0] [RDS A1 cp2 a0, RDK A5 cp6 a0]) => ?_))
 refine RL_cons (O_box (by exact wn0 rfl) (by rfl) (by rfl) (by rfl) H (fun w12 b11 (H : Sep ok w w12 [GRB b9 A1 cp2 A5 cp6 a0, HNB b11 a1] [RDS A1 cp2 a0, RDK A5 cp6 a0]) => ?_))
 refine RL_cons (O_alloc (by exact wn0 rfl) (by rfl) ze79 (by rfl) H (fun w14 b13 (H : Sep ok w w14 [GRB b9 A1 cp2 A5 cp6 a0, HNB b11 a1, .blk b13 79 [.slice none 0 0, .slice none 0 0]] [RDS A1 cp2 a0, RDK A5 cp6 a0]) => ?_))
 refine RL_p (x_assign (v := .int .i64 0) (by rfl)) ?_
 refine RL_nil ?_
 refine W_seq ?_
 refine W_seq ?_
 refine W_region ?_
 refine RL_p (x_loadA (j := 0) (vs := [.slice A1 a0.Arena.Slots.length cp2, .slice A5 a0.Kids.length cp6]) ag79 (by rfl) (H.cells (i := 0) (by rfl)) (by rfl) (by rfl)) ?_
 refine RL_p (x_loadA (j := 0) (vs := [.int .i64 a1.Slot, .int .i64 a1.Gen]) ag81 (by rfl) (H.cells (i := 1) (by rfl)) (by rfl) (by rfl)) ?_
 refine RL_cons (O_buildSlice (vs := [(0, .agg #[.int .i64 a1.Slot, .int .i64 a1.Gen])]) (cs := [.int .i64 a1.Slot, .int .i64 a1.Gen]) (by exact wn0 rfl) (by rfl) sl87 sz81 ze81 (by rfl) (by rfl) (by rfl) (by kernel_rfl) H (fun w16 b15 (H : Sep ok w w16 [GRB b9 A1 cp2 A5 cp6 a0, HNB b11 a1, .blk b13 79 [.slice none 0 0, .slice none 0 0], HNB b15 a1] [RDS A1 cp2 a0, RDK A5 cp6 a0]) => ?_))
 have H : Sep ok w w16 [GRB b9 A1 cp2 A5 cp6 a0, HNB b11 a1, .blk b13 79 [.slice none 0 0, .slice none 0 0], .row (.slice (some ⟨b15, 0, none⟩) ([a1]).length 1) 81 k_Handle.sz ([a1]).length [.int .i64 a1.Slot, .int .i64 a1.Gen]] [RDS A1 cp2 a0, RDK A5 cp6 a0, RE.chunks k_Handle [.int .i64 a1.Slot, .int .i64 a1.Gen] ([a1])] := H.rowOf (i := 3) (D := k_Handle) (xs := [a1]) (by rfl) (by exact ⟨rfl, rfl⟩) (by rfl)
 obtain ⟨v20, hv19, hm⟩ := bind_some hm
 refine RL_cons (O_call (by exact wn0 rfl) (by rfl) (by rfl) (x_callL (by rfl) (args := [.agg #[.slice A1 a0.Arena.Slots.length cp2, .slice A5 a0.Kids.length cp6], .slice (some ⟨b15, 0, none⟩) ([a1]).length 1]) (by rfl) (cf79 _ _)) (c79 okT K w16 a0 A1 cp2 A5 cp6 ([a1]) (some ⟨b15, 0, none⟩) 1 (H.rd (i := 0) (by rfl)).any (H.rd (i := 1) (by rfl)).any (H.rowRd (i := 3) (j := 2) (by rfl) (by rfl)) v20 hv19) ?_)
 rintro e w21 ⟨rfl, H2⟩
 have H : Sep ok w w21 [GRB b9 A1 cp2 A5 cp6 a0, HNB b11 a1, .blk b13 79 [.slice none 0 0, .slice none 0 0], .row (.slice (some ⟨b15, 0, none⟩) ([a1]).length 1) 81 k_Handle.sz ([a1]).length [.int .i64 a1.Slot, .int .i64 a1.Gen]] [RDS A1 cp2 a0, RDK A5 cp6 a0, RE.chunks k_Handle [.int .i64 a1.Slot, .int .i64 a1.Gen] ([a1])] := H.below H2.base
 clear H2
 refine ⟨_, rfl, ?_⟩
 show RL _ _ _ _ _ _ _
 refine RL_p (x_assign (v := .int .i64 v20) (by rfl)) ?_
 refine RL_nil ?_
 refine W_seq ?_
 refine W_region ?_
 refine RL_p (x_move (v := .int .i64 v20) (by rfl)) ?_
 refine RL_p (x_neq (by rfl) (by rfl)) ?_
 refine RL_nil ?_
 refine W_cond (by rfl) (fun hb => ?_) (fun hb => ?_)
 ·have hm := cond_t hb hm
  refine W_seq ?_
  refine W_region ?_
  refine RL_p (x_build (vs := []) (cs := [.slice none 0 0, .slice none 0 0]) (by rfl) (by kernel_rfl)) ?_
  refine RL_p (x_move (v := .int .i64 v20) (by rfl)) ?_
  refine RL_cons (O_store (i := 2) (off := 0) (by exact wn0 rfl) (by rfl) (by rfl) H (by rfl) (vs := [.slice none 0 0, .slice none 0 0]) (by rfl) sz79 (by rfl) (by rfl) (by rfl) (fun w22 (H : Sep ok w w22 [GRB b9 A1 cp2 A5 cp6 a0, HNB b11 a1, .blk b13 79 [.slice none 0 0, .slice none 0 0], .row (.slice (some ⟨b15, 0, none⟩) ([a1]).length 1) 81 k_Handle.sz ([a1]).length [.int .i64 a1.Slot, .int .i64 a1.Gen]] [RDS A1 cp2 a0, RDK A5 cp6 a0, RE.chunks k_Handle [.int .i64 a1.Slot, .int .i64 a1.Gen] ([a1])]) => ?_))
  refine RL_p (x_assign (v := .int .i64 v20) (by rfl)) ?_
  refine RL_nil ?_
  refine W_ret ?_
  have H : Sep ok w w22 [GRB b9 A1 cp2 A5 cp6 a0, HNB b11 a1, .blk b13 79 [.slice none 0 0, .slice none 0 0], .row (.slice (some ⟨b15, 0, none⟩) ([a1]).length 1) 81 k_Handle.sz ([a1]).length [.int .i64 a1.Slot, .int .i64 a1.Gen]] [RDS A1 cp2 a0, RDK A5 cp6 a0, RE.chunks k_Handle [.int .i64 a1.Slot, .int .i64 a1.Gen] ([a1]), RE.fr w.heap.size k_Slot none 0 ([])] := Sep.also H (re := RE.fr w.heap.size k_Slot none 0 ([])) (Rd.nil (by decide))
  have H : Sep ok w w22 [GRB b9 A1 cp2 A5 cp6 a0, HNB b11 a1, .blk b13 79 [.slice none 0 0, .slice none 0 0], .row (.slice (some ⟨b15, 0, none⟩) ([a1]).length 1) 81 k_Handle.sz ([a1]).length [.int .i64 a1.Slot, .int .i64 a1.Gen]] [RDS A1 cp2 a0, RDK A5 cp6 a0, RE.chunks k_Handle [.int .i64 a1.Slot, .int .i64 a1.Gen] ([a1]), RE.fr w.heap.size k_Slot none 0 ([]), RE.fr w.heap.size (Kd.slice k_Handle) none 0 ([])] := Sep.also H (re := RE.fr w.heap.size (Kd.slice k_Handle) none 0 ([])) (Rd.nil (by decide))
  obtain rfl := Option.some.inj hm
  exact ⟨[.agg #[.slice none 0 0, .slice none 0 0], .int .i64 v20], (.cellA (by rfl) ag79 (H.cells (i := 2) (by rfl)) (by rfl) (.tmp (by rfl) rfl)), none, 0, none, 0, rfl, (H.forgetAll).pick [3, 4]⟩
 ·have hm := cond_f hb hm
  refine W_skip ?_
  refine W_seq ?_
  refine W_region ?_
  refine RL_p (x_loadA (j := 0) (vs := [.slice A1 a0.Arena.Slots.length cp2, .slice A5 a0.Kids.length cp6]) ag79 (by rfl) (H.cells (i := 0) (by rfl)) (by rfl) (by rfl)) ?_
  unfold tl40 at hm
  obtain ⟨v, hv, hm⟩ := bind_some hm
  have H : Sep ok w _ [GRB b9 A1 cp2 A5 cp6 a0, HNB b11 a1, .blk b13 79 [.slice none 0 0, .slice none 0 0]] [RDS A1 cp2 a0, RDK A5 cp6 a0] := (H.takeL 3).pick [0, 1]
  refine RL_cons (O_call (by exact wn0 rfl) (by rfl) (by rfl) (x_callL (by rfl) (args := [.agg #[.slice A1 a0.Arena.Slots.length cp2, .slice A5 a0.Kids.length cp6]]) (by rfl) (cf53 _ _)) (c53x _ K _ a0 A1 cp2 A5 cp6 (H.rd (i := 0) (by rfl)) (H.rd (i := 1) (by rfl)) v hv) ?_)
  rintro e w2 ⟨A2, c2, s2, A3, c3, s3, ls, hls, rfl, H2⟩
  have H : Sep ok w w2 [GRB b9 A1 cp2 A5 cp6 a0, HNB b11 a1, .blk b13 79 [.slice none 0 0, .slice none 0 0], .row (.slice A2 v.Arena.Slots.length c2) 96 k_Slot.sz v.Arena.Slots.length s2, .row (.slice A3 (ls.map Inn.hd).length c3) 87 kHd.sz (ls.map Inn.hd).length s3, rowsOf 81 k_Handle.sz ls] [RDS A1 cp2 a0, RDK A5 cp6 a0, RE.chunks k_Slot s2 v.Arena.Slots, RE.chunks kHd s3 (ls.map Inn.hd), RE.inns k_Handle ls] := H.call H2
  clear H2
  refine ⟨_, rfl, ?_⟩
  show RL _ _ _ _ _ _ _
  refine RL_cons (O_store (i := 0) (off := 0) (by exact wn0 rfl) (by rfl) (by rfl) H (by rfl) (vs := [.slice A2 v.Arena.Slots.length c2, .slice A3 (ls.map Inn.hd).length c3]) (by rfl) sz79 (by rfl) (by rfl) (by rfl) (fun w3 (H : Sep ok w w3 [.blk b9 79 [.slice A2 v.Arena.Slots.length c2, .slice A3 (ls.map Inn.hd).length c3], HNB b11 a1, .blk b13 79 [.slice none 0 0, .slice none 0 0], .row (.slice A2 v.Arena.Slots.length c2) 96 k_Slot.sz v.Arena.Slots.length s2, .row (.slice A3 (ls.map Inn.hd).length c3) 87 kHd.sz (ls.map Inn.hd).length s3, rowsOf 81 k_Handle.sz ls] [RDS A1 cp2 a0, RDK A5 cp6 a0, RE.chunks k_Slot s2 v.Arena.Slots, RE.chunks kHd s3 (ls.map Inn.hd), RE.inns k_Handle ls]) => ?_))
  refine RL_nil ?_
  obtain ⟨v2, hv2, hm⟩ := bind_some hm
  by_cases hrange : 0 ≤ a1.Slot ∧ a1.Slot < (v.Kids.length : Int) ∧ v.Kids.length < 9223372036854775807
  rotate_left
  ·rw [if_neg hrange] at hm; cases hm
  rw [if_pos hrange] at hm
  obtain ⟨h0, h1, hnm⟩ := hrange
  have hlen : ls.length = v.Kids.length := by rw [← hls, List.length_map]
  obtain ⟨r, hr⟩ : ∃ r, ls[a1.Slot.toNat]? = some r := ⟨_, List.getElem?_eq_getElem (show a1.Slot.toNat < ls.length by omega)⟩
  have hhd : (ls.map Inn.hd)[a1.Slot.toNat]? = some r.hd := by rw [List.getElem?_map, hr]; rfl
  have hlh : (ls.map Inn.hd).length = v.Kids.length := by rw [List.length_map, hlen]
  have H : Sep ok w w3 [.blk b9 79 [.slice A2 v.Arena.Slots.length c2, .slice A3 (ls.map Inn.hd).length c3], HNB b11 a1, .blk b13 79 [.slice none 0 0, .slice none 0 0], .hole, .row (.slice A3 (ls.map Inn.hd).length c3) 87 kHd.sz (ls.map Inn.hd).length s3, rowsOf 81 k_Handle.sz ls] [RDS A1 cp2 a0, RDK A5 cp6 a0, RDS A2 c2 v, RE.chunks kHd s3 (ls.map Inn.hd), RE.inns k_Handle ls] := H.frozen (i := 3) (j := 2) (by rfl) (by rfl)
  have hm3 : w.heap.size ≤ w3.heap.size := H.le
  refine W_seq ?_
  refine W_region ?_
  refine RL_p (x_fieldAddr fo79_0 (by rfl)) ?_
  refine RL_p (x_loadA (j := 0) (vs := [.slice A2 v.Arena.Slots.length c2]) ag76 (by rfl) (H.cells (i := 0) (by rfl)) (by rfl) (by rfl)) ?_
  refine RL_p (x_loadA (j := 0) (vs := [.int .i64 a1.Slot, .int .i64 a1.Gen]) ag81 (by rfl) (H.cells (i := 1) (by rfl)) (by rfl) (by rfl)) ?_
  refine RL_cons (O_call (by exact wn0 rfl) (by rfl) (by rfl) (x_callL (by rfl) (args := [.agg #[.slice A2 v.Arena.Slots.length c2], .agg #[.int .i64 a1.Slot, .int .i64 a1.Gen]]) (by rfl) (cf83 _ _)) (c83n (okS ok w [.blk b9 79 [.slice A2 v.Arena.Slots.length c2, .slice A3 (ls.map Inn.hd).length c3], HNB b11 a1, .blk b13 79 [.slice none 0 0, .slice none 0 0], .hole, .row (.slice A3 (ls.map Inn.hd).length c3) 87 kHd.sz (ls.map Inn.hd).length s3, rowsOf 81 k_Handle.sz ls]) (fun _ h => h) K w3 v.Arena A2 c2 a1 (H.rd (i := 2) (by rfl)) v2 hv2) ?_)
  rintro e w4 ⟨A8, c8, rfl, H2⟩
  have H := H.call H2
  clear H2
  have H := H.also (re := RE.fr w.heap.size k_Slot A8 c8 v2.1.Slots) (Rd.weak (H.frRd (i := 5) (by rfl)) fun b ob _ hb => ⟨hb.1, Nat.le_trans hm3 hb.2.1, hb.2.2⟩)
  have H : Sep ok w w4 [.blk b9 79 [.slice A2 v.Arena.Slots.length c2, .slice A3 (ls.map Inn.hd).length c3], HNB b11 a1, .blk b13 79 [.slice none 0 0, .slice none 0 0], .hole, .row (.slice A3 (ls.map Inn.hd).length c3) 87 kHd.sz (ls.map Inn.hd).length s3, rowsOf 81 k_Handle.sz ls] [RDS A1 cp2 a0, RDK A5 cp6 a0, RDS A2 c2 v, RE.chunks kHd s3 (ls.map Inn.hd), RE.inns k_Handle ls, RE.fr w.heap.size k_Slot A8 c8 v2.1.Slots] := H.pick [0, 1, 2, 3, 4, 6]
  refine ⟨_, rfl, ?_⟩
  show RL _ _ _ _ _ _ _
  refine RL_p (x_move (v := tup [.agg #[.slice A8 v2.1.Slots.length c8], .int .i64 v2.2]) (by rfl)) ?_
  refine RL_p (x_extract (by rfl) (v := .agg #[.slice A8 v2.1.Slots.length c8]) (by rfl)) ?_
  refine RL_p (x_extract (by rfl) (v := .int .i64 v2.2) (by rfl)) ?_
  refine RL_p (x_fieldAddr fo79_0 (by rfl)) ?_
  refine RL_cons (O_store (i := 0) (off := 0) (by exact wn0 rfl) (by rfl) (by rfl) H (by rfl) (vs := [.slice A8 v2.1.Slots.length c8]) (by rfl) sz76 (by rfl) (by rfl) (by rfl) (fun w5 (H : Sep ok w w5 [.blk b9 79 [.slice A8 v2.1.Slots.length c8, .slice A3 (ls.map Inn.hd).length c3], HNB b11 a1, .blk b13 79 [.slice none 0 0, .slice none 0 0], .hole, .row (.slice A3 (ls.map Inn.hd).length c3) 87 kHd.sz (ls.map Inn.hd).length s3, rowsOf 81 k_Handle.sz ls] [RDS A1 cp2 a0, RDK A5 cp6 a0, RDS A2 c2 v, RE.chunks kHd s3 (ls.map Inn.hd), RE.inns k_Handle ls, RE.fr w.heap.size k_Slot A8 c8 v2.1.Slots]) => ?_))
  refine RL_nil ?_
  obtain ⟨gi, _, hAi, _, _⟩ := H.rowIdx (i := 4) (j := 3) (by rfl) (by rfl) hhd
  obtain ⟨l0, hl0⟩ : ∃ l0 : List (Inn S_Handle), ls.set a1.Slot.toNat Inn.nil = l0 := ⟨_, rfl⟩
  have hset0 : (ls.map Inn.hd).set a1.Slot.toNat (none, 0, 0) = l0.map Inn.hd := by rw [← hl0, List.map_set]; rfl
  have hk0 : l0.map (·.xs) = v.Kids.set a1.Slot.toNat [] := by rw [← hl0, List.map_set, hls]; rfl
  have hlen0 : l0.length = v.Kids.length := by rw [← hl0, List.length_set, hlen]
  refine W_seq ?_
  refine W_region ?_
  refine RL_p (x_fieldAddr fo79_1 (by rfl)) ?_
  refine RL_p (x_load (j := 1) (v := .slice A3 (ls.map Inn.hd).length c3) sc77 (by rfl) (H.cells (i := 0) (by rfl)) (by rfl)) ?_
  refine RL_p (x_fieldAddr fo81_0 (by rfl)) ?_
  refine RL_p (x_load (j := 0) (v := .int .i64 a1.Slot) sc3 (by rfl) (H.cells (i := 1) (by rfl)) (by rfl)) ?_
  refine RL_p (x_indexAddr sl77 sz87 (by rfl) (by rfl) hAi h0 (by omega)) ?_
  refine RL_cons (O_storeRow (D := kHd) (i := 4) (j := 3) (off := 0) (m := a1.Slot) (a := r.hd) (b := (none, 0, 0)) (vs := [.slice none 0 0]) (by exact wn0 rfl) H (by rfl) (by rfl) hAi (by rfl) (by rfl) hhd (by rfl) sz87 (by rfl) (by rfl) (by intro ce hce; obtain rfl := hce; rfl) hset0 (fun w6 s6 (H : Sep ok w w6 [.blk b9 79 [.slice A8 v2.1.Slots.length c8, .slice A3 (ls.map Inn.hd).length c3], HNB b11 a1, .blk b13 79 [.slice none 0 0, .slice none 0 0], .hole, .row (.slice A3 (l0.map Inn.hd).length c3) 87 kHd.sz (l0.map Inn.hd).length s6, rowsOf 81 k_Handle.sz ls] [RDS A1 cp2 a0, RDK A5 cp6 a0, RDS A2 c2 v, RE.chunks kHd s6 (l0.map Inn.hd), RE.inns k_Handle ls, RE.fr w.heap.size k_Slot A8 c8 v2.1.Slots]) => ?_))
  refine RL_nil ?_
  have H := H.rowsPull (i := 5) (j := a1.Slot.toNat) (by rfl) hr
  have hin := RE.inns_set (r := (Inn.nil : Inn S_Handle)) (j := a1.Slot.toNat) (show (RE.inns k_Handle ls).rel w6 _ from H.rds 4 _ (by rfl)) (by exact Chunks.nil)
  have H := H.setRe 4 hin
  rw [hl0] at H
  have H : Sep ok w w6 [.blk b9 79 [.slice A8 v2.1.Slots.length c8, .slice A3 (ls.map Inn.hd).length c3], HNB b11 a1, .blk b13 79 [.slice none 0 0, .slice none 0 0], .hole, .row (.slice A3 (l0.map Inn.hd).length c3) 87 kHd.sz (l0.map Inn.hd).length s6, rowsOf 81 k_Handle.sz l0] [RDS A1 cp2 a0, RDK A5 cp6 a0, RDS A2 c2 v, RE.chunks kHd s6 (l0.map Inn.hd), RE.inns k_Handle l0, RE.fr w.heap.size k_Slot A8 c8 v2.1.Slots] := H.takeL 6
  clear hin
  refine W_seq ?_
  refine W_seq ?_
  refine W_region ?_
  refine RL_p (x_fieldAddr fo79_1 (by rfl)) ?_
  refine RL_p (x_load (j := 1) (v := .slice A3 (ls.map Inn.hd).length c3) sc77 (by rfl) (H.cells (i := 0) (by rfl)) (by rfl)) ?_
  refine RL_p (x_len sl77 (by rfl)) ?_
  refine RL_p (x_move (v := .int .i64 0) (by rfl)) ?_
  refine RL_nil ?_
  refine W_block ?_
  refine W_loop (fun k r' w' => ∃ (l : List (Inn S_Handle)) (i : Nat) (sl : List Value), i ≤ v.Kids.length ∧ v.Kids.length < i + k ∧ l.map (·.xs) = ((l0.map (·.xs)).take i).map (fun l : List S_Handle => l.filter fun x => !eqH a1 x) ++ (l0.map (·.xs)).drop i ∧ Agr [(2, .pointer (some ⟨b9, 0, none⟩)), (3, .pointer (some ⟨b11, 0, none⟩)), (4, .pointer (some ⟨b13, 0, none⟩)), (33, .slice A3 (ls.map Inn.hd).length c3), (34, .int .i64 ((ls.map Inn.hd).length : Int)), (35, .int .i64 (i : Int))] r' ∧ Sep ok w w' [.blk b9 79 [.slice A8 v2.1.Slots.length c8, .slice A3 (ls.map Inn.hd).length c3], HNB b11 a1, .blk b13 79 [.slice none 0 0, .slice none 0 0], .hole, .row (.slice A3 (l.map Inn.hd).length c3) 87 kHd.sz (l.map Inn.hd).length sl, rowsOf 81 k_Handle.sz l] [RDS A1 cp2 a0, RDK A5 cp6 a0, RDS A2 c2 v, RE.chunks kHd sl (l.map Inn.hd), RE.inns k_Handle l, RE.fr w.heap.size k_Slot A8 c8 v2.1.Slots]) (v.Kids.length + 1) ?_ ?_
  ·exact ⟨l0, 0, s6, by omega, by omega, by simp, ⟨rfl, rfl, rfl, rfl, rfl, rfl, trivial⟩, H⟩
  rintro k r' w' ⟨l, i, sl, hi1, hi2, hlx, hAg, H⟩
  obtain ⟨r20, rfl⟩ := regen _ hAg; clear hAg
  obtain ⟨w20, rfl⟩ : ∃ W : World, W = w' := ⟨_, rfl⟩
  have hll : l.length = v.Kids.length := by
   have h2 := congrArg List.length hlx
   simp only [List.length_map, List.length_append, List.length_take, List.length_drop] at h2
   omega
  have hlhi : (l.map Inn.hd).length = v.Kids.length := by rw [List.length_map, hll]
  refine W_seq ?_
  refine W_region ?_
  refine RL_p (x_lss (by rfl) (by rfl)) ?_
  refine RL_nil ?_
  refine W_seq ?_
  refine W_cond (by rfl) (fun hb => ?_) (fun hb => ?_)
  ·have hlt : i < l.length := by have := of_decide_eq_true hb; omega
   have hq : l[i]? = some l[i] := List.getElem?_eq_getElem hlt
   generalize l[i] = q at hq
   have hqh : (l.map Inn.hd)[((i : Int)).toNat]? = some q.hd := by rw [Int.toNat_natCast, List.getElem?_map, hq]; rfl
   obtain ⟨gq, _, hAq, _, _⟩ := H.rowIdx (i := 4) (j := 3) (by rfl) (by rfl) hqh
   refine W_skip ?_
   refine W_seq ?_
   refine W_block ?_
   refine W_seq ?_
   refine W_region ?_
   refine RL_p (x_move (v := .int .i64 (i : Int)) (by rfl)) ?_
   refine RL_p (x_indexAddr sl77 sz87 (by rfl) (by rfl) hAq (by omega) (by omega)) ?_
   refine RL_p (x_load (j := 0) (v := .slice q.A q.xs.length q.c) sc87 (by rfl) (H.rowFlatAt (n := 1) (i := 4) (j := 3) (by rfl) (by rfl) hAq hqh) (by rfl)) ?_
   refine RL_p (x_assign (v := .int .i64 (i : Int)) (by rfl)) ?_
   refine RL_p (x_assign (v := .slice q.A q.xs.length q.c) (by rfl)) ?_
   refine RL_nil ?_
   refine W_draw [.free 0, .take 1, .free 2, .free 3, .free 4, .run 5, .free 6, .tail 7] (fun wS => Sep ok w wS [.blk b9 79 [.slice A8 v2.1.Slots.length c8, .slice A3 (ls.map Inn.hd).length c3], HNB b11 a1, .blk b13 79 [.slice none 0 0, .slice none 0 0], .hole, .row (.slice A3 (l.map Inn.hd).length c3) 87 kHd.sz (l.map Inn.hd).length sl] [RDS A1 cp2 a0, RDK A5 cp6 a0, RDS A2 c2 v, RE.chunks kHd sl (l.map Inn.hd)]) [7] [0, 2, 3, 4, 6] mixed0 (by kernel_rfl) (by kernel_rfl) (by kernel_rfl) (by rfl) (by exact (H.drew.takeL 5).takeR 4) ?_
   obtain ⟨w21, hW⟩ : ∃ W : World, W = { w20 with drawn := w20.drawn + 1 } := ⟨_, rfl⟩
   rw [← hW]
   have H : Sep ok w w21 [.blk b9 79 [.slice A8 v2.1.Slots.length c8, .slice A3 (ls.map Inn.hd).length c3], HNB b11 a1, .blk b13 79 [.slice none 0 0, .slice none 0 0], .hole, .row (.slice A3 (l.map Inn.hd).length c3) 87 kHd.sz (l.map Inn.hd).length sl, rowsOf 81 k_Handle.sz l] [RDS A1 cp2 a0, RDK A5 cp6 a0, RDS A2 c2 v, RE.chunks kHd sl (l.map Inn.hd), RE.inns k_Handle l, RE.fr w.heap.size k_Slot A8 c8 v2.1.Slots] := by rw [hW]; exact H.drew
   clear hW
   refine PR_free (by rfl) (by rfl) (by rfl) (by exact wn0 rfl) (fun wS => (x_fieldAddr fo79_1 (by rfl))) ?_
   refine PR_take (by rfl) (by rfl) (by rfl) (by exact wn0 rfl) (fun wS (H : Sep ok w wS [.blk b9 79 [.slice A8 v2.1.Slots.length c8, .slice A3 (ls.map Inn.hd).length c3], HNB b11 a1, .blk b13 79 [.slice none 0 0, .slice none 0 0], .hole, .row (.slice A3 (l.map Inn.hd).length c3) 87 kHd.sz (l.map Inn.hd).length sl] [RDS A1 cp2 a0, RDK A5 cp6 a0, RDS A2 c2 v, RE.chunks kHd sl (l.map Inn.hd)]) => (x_load (j := 1) (v := .slice A3 (ls.map Inn.hd).length c3) sc77 (by rfl) (H.cells (i := 0) (by rfl)) (by rfl))) ?_
   refine PR_free (by rfl) (by rfl) (by rfl) (by exact wn0 rfl) (fun wS => (x_move (v := .int .i64 (i : Int)) (by rfl))) ?_
   refine PR_free (by rfl) (by rfl) (by rfl) (by exact wn0 rfl) (fun wS => (x_move (v := .slice q.A q.xs.length q.c) (by rfl))) ?_
   refine PR_free (by rfl) (by rfl) (by rfl) (by exact wn0 rfl) (fun wS => (x_makeFunc (vs := [.pointer (some ⟨b11, 0, none⟩)]) (by rfl))) ?_
   have H : Sep ok w w21 [.blk b9 79 [.slice A8 v2.1.Slots.length c8, .slice A3 (ls.map Inn.hd).length c3], HNB b11 a1, .blk b13 79 [.slice none 0 0, .slice none 0 0], .hole, .row (.slice A3 (l.map Inn.hd).length c3) 87 kHd.sz (l.map Inn.hd).length sl, rowsOf 81 k_Handle.sz (l.set i Inn.nil), .row (.slice q.A q.xs.length q.c) 81 k_Handle.sz q.xs.length q.cs] [RDS A1 cp2 a0, RDK A5 cp6 a0, RDS A2 c2 v, RE.chunks kHd sl (l.map Inn.hd), RE.inns k_Handle l, RE.fr w.heap.size k_Slot A8 c8 v2.1.Slots] := H.rowsPull (i := 5) (j := i) (by rfl) hq
   have hrc : Chunks k_Handle w21 (okS ok w [.blk b9 79 [.slice A8 v2.1.Slots.length c8, .slice A3 (ls.map Inn.hd).length c3], HNB b11 a1, .blk b13 79 [.slice none 0 0, .slice none 0 0], .hole, .row (.slice A3 (l.map Inn.hd).length c3) 87 kHd.sz (l.map Inn.hd).length sl, rowsOf 81 k_Handle.sz (l.set i Inn.nil), .row (.slice q.A q.xs.length q.c) 81 k_Handle.sz q.xs.length q.cs]) q.cs q.xs := (show (RE.inns k_Handle l).rel w21 _ from H.rds 4 _ (by rfl)) q (List.mem_of_getElem? hq)
   have HL := H.lend (i := 6) (by rfl)
   have HL := HL.also (re := RE.chunks k_Handle q.cs q.xs) (hrc.flat (fun _ _ _ _ _ _ h => h))
   have HL := H.lendBlk HL (i := 6) (j := 1) (by rfl) (by rfl) (by decide)
   obtain ⟨l2, hl2⟩ : ∃ l2, q.xs.filter (fun x => !eqH a1 x) = l2 := ⟨_, rfl⟩
   refine PR_run (by rfl) (O_call (by exact wn0 rfl) (by rfl) (by rfl) (x_callL (by rfl) (args := [.slice q.A q.xs.length q.c, .func (.func 85) #[] #[.pointer (some ⟨b11, 0, none⟩)]]) (by rfl) (cf84 _ _)) (c84 _ K w21 w21 q.xs q.A q.c q.cs a1 b11 HL l2 hl2) ?_)
   rintro e w22 ⟨A7, c7, cs7, rfl, HB⟩
   have hcB : Chunks k_Handle w22 _ cs7 l2 := HB.rds 0 _ (by rfl)
   have H : Sep ok w w22 [.blk b9 79 [.slice A8 v2.1.Slots.length c8, .slice A3 (ls.map Inn.hd).length c3], HNB b11 a1, .blk b13 79 [.slice none 0 0, .slice none 0 0], .hole, .row (.slice A3 (l.map Inn.hd).length c3) 87 kHd.sz (l.map Inn.hd).length sl, rowsOf 81 k_Handle.sz (l.set i Inn.nil), .row (.slice A7 l2.length c7) 81 k_Handle.sz l2.length cs7] [RDS A1 cp2 a0, RDK A5 cp6 a0, RDS A2 c2 v, RE.chunks kHd sl (l.map Inn.hd), RE.inns k_Handle l, RE.fr w.heap.size k_Slot A8 c8 v2.1.Slots, RE.chunks k_Handle cs7 l2] := (H.back (i := 6) (by rfl) HB).also (re := RE.chunks k_Handle cs7 l2) (hcB.flat (fun _ _ _ _ _ _ h => h))
   clear HB HL
   refine ⟨_, rfl, (H.takeL 5).takeR 4, ?_⟩
   show PR _ _ _ _ _ _ _ _
   refine PR_free (by rfl) (by rfl) (by rfl) (by exact wn0 rfl) (fun wS => (x_indexAddr sl77 sz87 (by rfl) (by rfl) hAq (by omega) (by omega))) ?_
   obtain ⟨l3, hl3⟩ : ∃ l3 : List (Inn S_Handle), l.set i ⟨A7, c7, cs7, l2⟩ = l3 := ⟨_, rfl⟩
   have hset : (l.map Inn.hd).set ((i : Int)).toNat (A7, l2.length, c7) = l3.map Inn.hd := by rw [← hl3, List.map_set]; rfl
   refine PR_tail (by rfl) (O_storeRow (D := kHd) (i := 4) (j := 3) (off := 0) (m := (i : Int)) (a := q.hd) (b := (A7, l2.length, c7)) (vs := [.slice A7 l2.length c7]) (by exact wn0 rfl) H (by rfl) (by rfl) hAq (by rfl) (by rfl) hqh (by rfl) sz87 (by rfl) (by rfl) (by intro ce hce; obtain rfl := hce; rfl) hset (fun w23 s9 (H : Sep ok w w23 [.blk b9 79 [.slice A8 v2.1.Slots.length c8, .slice A3 (ls.map Inn.hd).length c3], HNB b11 a1, .blk b13 79 [.slice none 0 0, .slice none 0 0], .hole, .row (.slice A3 (l3.map Inn.hd).length c3) 87 kHd.sz (l3.map Inn.hd).length s9, rowsOf 81 k_Handle.sz (l.set i Inn.nil), .row (.slice A7 l2.length c7) 81 k_Handle.sz l2.length cs7] [RDS A1 cp2 a0, RDK A5 cp6 a0, RDS A2 c2 v, RE.chunks kHd s9 (l3.map Inn.hd), RE.inns k_Handle l, RE.fr w.heap.size k_Slot A8 c8 v2.1.Slots, RE.chunks k_Handle cs7 l2]) => ?_))
   refine PR_nil ?_
   have hin := RE.inns_set (r := (⟨A7, c7, cs7, l2⟩ : Inn S_Handle)) (j := i) (show (RE.inns k_Handle l).rel w23 _ from H.rds 4 _ (by rfl)) (show (RE.chunks k_Handle cs7 l2).rel w23 _ from H.rds 6 _ (by rfl))
   rw [hl3] at hin
   have H := (H.setRe 4 hin).rowsPut (i := 5) (j := i) (k := 6) (r0 := Inn.nil) (r := ⟨A7, c7, cs7, l2⟩) (by rfl) (by rw [List.getElem?_set_self hlt]) (by rfl) (by decide)
   rw [List.set_set, hl3] at H
   have H : Sep ok w w23 [.blk b9 79 [.slice A8 v2.1.Slots.length c8, .slice A3 (ls.map Inn.hd).length c3], HNB b11 a1, .blk b13 79 [.slice none 0 0, .slice none 0 0], .hole, .row (.slice A3 (l3.map Inn.hd).length c3) 87 kHd.sz (l3.map Inn.hd).length s9, rowsOf 81 k_Handle.sz l3] [RDS A1 cp2 a0, RDK A5 cp6 a0, RDS A2 c2 v, RE.chunks kHd s9 (l3.map Inn.hd), RE.inns k_Handle l3, RE.fr w.heap.size k_Slot A8 c8 v2.1.Slots] := (H.takeL 6).takeR 6
   have hw2 : IntKind.i64.wrap ((i : Int) + 1) = ((i + 1 : Nat) : Int) := by rw [wrap_i64_in (by omega)]; push_cast; rfl
   refine W_region ?_
   refine RL_p (x_add (by rfl) (by rfl) hw2) ?_
   refine RL_p (x_move (v := .int .i64 ((i + 1 : Nat) : Int)) (by rfl)) ?_
   refine RL_nil ?_
   refine ⟨k - 1, by omega, l3, i + 1, s9, by omega, by omega, ?_, ⟨rfl, rfl, rfl, rfl, rfl, rfl, trivial⟩, H⟩
   rw [← hl3, List.map_set, hlx]
   have hqx : (l0.map (·.xs))[i]? = some q.xs := by
    have h2 : (l.map (·.xs))[i]? = some q.xs := by rw [List.getElem?_map, hq]; rfl
    rw [hlx, List.getElem?_append_right (by simp; omega)] at h2
    simp only [List.length_map, List.length_take] at h2
    rw [show i - min i l0.length = 0 by omega, List.getElem?_drop] at h2
    exact h2
   have hli : i < (l0.map (·.xs)).length := by rw [List.length_map, hlen0]; omega
   rw [← hl2]
   exact set_filter _ hqx
  ·have hge : i = v.Kids.length := by have := of_decide_eq_false hb; omega
   have hk3 : l.map (·.xs) = (v.Kids.set a1.Slot.toNat []).map (fun l : List S_Handle => l.filter fun x => !eqH a1 x) := by
    rw [hlx, hge, ← hk0, List.take_of_length_le (by rw [List.length_map]; omega), List.drop_eq_nil_of_le (by rw [List.length_map]; omega), List.append_nil]
   refine W_exit ?_
   refine W_seq ?_
   refine W_region ?_
   refine RL_p (x_loadA (j := 0) (vs := [.slice A8 v2.1.Slots.length c8, .slice A3 (ls.map Inn.hd).length c3]) ag79 (by rfl) (H.cells (i := 0) (by rfl)) (by rfl) (by rfl)) ?_
   refine RL_cons (O_store (i := 2) (off := 0) (by exact wn0 rfl) (by rfl) (by rfl) H (by rfl) (vs := [.slice A8 v2.1.Slots.length c8, .slice A3 (ls.map Inn.hd).length c3]) (by rfl) sz79 (by rfl) (by rfl) (by rfl) (fun w30 (H : Sep ok w w30 [.blk b9 79 [.slice A8 v2.1.Slots.length c8, .slice A3 (ls.map Inn.hd).length c3], HNB b11 a1, .blk b13 79 [.slice A8 v2.1.Slots.length c8, .slice A3 (ls.map Inn.hd).length c3], .hole, .row (.slice A3 (l.map Inn.hd).length c3) 87 kHd.sz (l.map Inn.hd).length sl, rowsOf 81 k_Handle.sz l] [RDS A1 cp2 a0, RDK A5 cp6 a0, RDS A2 c2 v, RE.chunks kHd sl (l.map Inn.hd), RE.inns k_Handle l, RE.fr w.heap.size k_Slot A8 c8 v2.1.Slots]) => ?_))
   refine RL_p (x_assign (v := .int .i64 0) (by rfl)) ?_
   refine RL_nil ?_
   refine W_ret ?_
   have HF : Sep ok w w30 [.blk b9 79 [.slice A8 v2.1.Slots.length c8, .slice A3 (ls.map Inn.hd).length c3], HNB b11 a1, .blk b13 79 [.slice A8 v2.1.Slots.length c8, .slice A3 (ls.map Inn.hd).length c3], .hole, .row (.slice A3 (l.map Inn.hd).length c3) 87 kHd.sz (l.map Inn.hd).length sl, rowsOf 81 k_Handle.sz l] [RDS A1 cp2 a0, RDK A5 cp6 a0, RDS A2 c2 v, RE.chunks kHd sl (l.map Inn.hd), RE.inns k_Handle l, RE.fr w.heap.size k_Slot A8 c8 v2.1.Slots] := H
   have H := H.rowsFreeze hno (fun _ _ _ _ _ _ h => h) (i := 5) (o := 4) (j := 3) (q := 4) (l := l) (by rfl) (by rw [← (List.length_map Inn.hd : (List.map Inn.hd l).length = _)]; rfl) (by rfl) (by rfl) (by decide)
   rw [hk3] at H
   obtain rfl := Option.some.inj hm
   have hkl : (ls.map Inn.hd).length = ((v.Kids.set a1.Slot.toNat []).map (fun l : List S_Handle => l.filter fun x => !eqH a1 x)).length := by rw [hlh, List.length_map, List.length_set]
   exact ⟨[.agg #[.slice A8 v2.1.Slots.length c8, .slice A3 (ls.map Inn.hd).length c3], .int .i64 0], (.cellA (by rfl) ag79 (HF.cells (i := 2) (by rfl)) (by rfl) (.tmp (by rfl) rfl)), A8, c8, A3, c3, by rw [hkl] <;> rfl, (H.forgetAll).pick [5, 6]⟩

theorem c40 (ok : Okp) (K : Nat) (w : World) (a0 : S_Graph) (A1 : Option Addr) (cp2 : Nat) (A5 : Option Addr) (cp6 : Nat) (a1 : S_Handle) (hR3 : Rd k_Slot w ok A1 cp2 a0.Arena.Slots) (hR7 : Rd (Kd.slice k_Handle) w ok A5 cp6 a0.Kids) (res : S_Graph × Int) (hm : m40 K a0 a1 = some res) (hno : ∀ k, ¬ ok.wr k := by intro k hk; exact hk) :
  Calls Try.prog 40 #[.agg #[.slice A1 a0.Arena.Slots.length cp2, .slice A5 a0.Kids.length cp6], .agg #[.int .i64 a1.Slot, .int .i64 a1.Gen]] w (fun e w' => ∃ (A0_ : Option Addr) (c0_ : Nat), ∃ (A1_ : Option Addr) (c1_ : Nat), e = .returned (tup [.agg #[.slice A0_ res.1.Arena.Slots.length c0_, .slice A1_ res.1.Kids.length c1_], .int .i64 res.2]) ∧ Sep ok w w' [] [RDS A0_ c0_ res.1, RDK A1_ c1_ res.1]) :=
 (c40n ok hno K w a0 A1 cp2 A5 cp6 a1 hR3 hR7 res hm).mono fun e w' ⟨A0_, c0_, A1_, c1_, he, H⟩ => ⟨A0_, c0_, A1_, c1_, he, ((H.alsoRd (i := 0) (by rfl)).alsoRd (i := 1) (by rfl)).pick [2, 3]⟩
end Go.Proofs.YtobkigllalbkiaaV.M

/- A plain Lean function that answers as the Go function does (none: not told), and the proof that a call answers so. Written by program. -/
set_option linter.unusedVariables false
namespace Go.Proofs.YtobkigllalbkiaaV.M
open Go.RowKit Go.Proofs.YtobkigllalbkiaaV
set_option maxRecDepth 100000 in
set_option maxHeartbeats 4000000 in
/-- slices.Delete, of a row that is handed over; some are taken out. -/
theorem c86 (ok : Okp) (w0 w : World) (a0 : List S_Handle) (i j : Int) (A : Option Addr) (c : Nat) (cs : List Value) (H : Sep ok w0 w [.row (.slice A a0.length c) 81 k_Handle.sz a0.length cs] [RE.chunks k_Handle cs a0])
  (h0 : 0 ≤ i) (h1 : i < j) (h2 : j ≤ (a0.length : Int)) (res : List S_Handle) (hres : a0.take i.toNat ++ a0.drop j.toNat = res) :
  Calls Try.prog 86 #[.slice A a0.length c, .int .i64 i, .int .i64 j] w (fun e w' => ∃ (A' : Option Addr) (c' : Nat) (cs' : List Value), e = .returned (tup [.slice A' res.length c']) ∧ Sep ok w0 w' [.row (.slice A' res.length c') 81 k_Handle.sz res.length cs'] [RE.chunks k_Handle cs' res]) := by
 refine calls_W (args := [.slice A a0.length c, .int .i64 i, .int .i64 j]) Try.func86 rfl Try.ntmps86 Try.results86 rfl fun r hr => ?_
 obtain ⟨r1, rfl⟩ := regen (r := r) [(0, .slice A a0.length c), (1, .int .i64 i), (2, .int .i64 j)] ⟨hr 0 _ rfl, hr 1 _ rfl, hr 2 _ rfl, trivial⟩
 obtain ⟨hac, hA⟩ := H.rowForm (i := 0) (by rfl)
 have hrl : res.length = i.toNat + (a0.length - j.toNat) := by subst hres; simp; omega
 refine W_seq ?_
 refine W_region ?_
 refine RL_pure (by exact wn0 rfl) (by rfl) (by rfl) (x_assign (v := .slice none 0 0) (by rfl)) ?_
 refine RL_nil ?_
 refine W_seq ?_
 refine W_region ?_
 refine RL_pure (by exact wn0 rfl) (by rfl) (by rfl) (x_move (v := .slice A a0.length c) (by rfl)) ?_
 refine RL_pure (by exact wn0 rfl) (by rfl) (by rfl) (x_move (v := .int .i64 i) (by rfl)) ?_
 refine RL_pure (by exact wn0 rfl) (by rfl) (by rfl) (x_move (v := .int .i64 j) (by rfl)) ?_
 refine RL_pure (by exact wn0 rfl) (by rfl) (by rfl) (x_move (v := .slice A a0.length c) (by rfl)) ?_
 refine RL_pure (by exact wn0 rfl) (by rfl) (by rfl) (x_len sl87 (by rfl)) ?_
 refine RL_pure (by exact wn0 rfl) (by rfl) (by rfl) (x_slice_lhm (A := A) (n := a0.length) (c := c) (k := .i64) (k2 := .i64) (k3 := .i64) (j := i) (j2 := j) (j3 := (a0.length : Int)) sl87 sz81 (by rfl) (by rfl) (by rfl) (by rfl) h0 (by omega) h2 (by omega)) ?_
 refine RL_nil ?_
 refine W_seq ?_
 refine W_seq ?_
 refine W_region ?_
 refine RL_pure (by exact wn0 rfl) (by rfl) (by rfl) (x_move (v := .int .i64 i) (by rfl)) ?_
 refine RL_pure (by exact wn0 rfl) (by rfl) (by rfl) (x_move (v := .int .i64 j) (by rfl)) ?_
 refine RL_pure (by exact wn0 rfl) (by rfl) (by rfl) (x_eql (by rfl) (by rfl)) ?_
 refine RL_nil ?_
 refine W_cond (by rfl) (fun hb => ?_) (fun hb => ?_)
 ·have : i = j := by simpa using hb
  omega
 refine W_skip ?_
 refine W_seq ?_
 refine W_region ?_
 refine RL_pure (by exact wn0 rfl) (by rfl) (by rfl) (x_move (v := .slice A a0.length c) (by rfl)) ?_
 refine RL_pure (by exact wn0 rfl) (by rfl) (by rfl) (x_len sl87 (by rfl)) ?_
 refine RL_pure (by exact wn0 rfl) (by rfl) (by rfl) (x_assign (v := .int .i64 (a0.length : Int)) (by rfl)) ?_
 refine RL_nil ?_
 refine W_seq ?_
 refine W_draw [.free 0, .free 1, .free 2, .free 3, .free 4, .free 5, .tail 6, .free 7] (fun wS => Sep ok w0 wS [.row (.slice A a0.length c) 81 k_Handle.sz a0.length cs] [RE.chunks k_Handle cs a0]) [6] [0, 1, 2, 3, 4, 5, 7] mixed0 (by kernel_rfl) (by kernel_rfl) (by kernel_rfl) (by rfl) (by exact H.drew) ?_
 obtain ⟨w2, hW⟩ : ∃ W : World, W = { w with drawn := w.drawn + 1 } := ⟨_, rfl⟩
 rw [← hW]
 have H : Sep ok w0 w2 [.row (.slice A a0.length c) 81 k_Handle.sz a0.length cs] [RE.chunks k_Handle cs a0] := by rw [hW]; exact H.drew
 clear hW
 refine PR_free (by rfl) (by rfl) (by rfl) (by exact wn0 rfl) (fun wS => (x_move (v := .slice A a0.length c) (by rfl))) ?_
 refine PR_free (by rfl) (by rfl) (by rfl) (by exact wn0 rfl) (fun wS => (x_move (v := .int .i64 i) (by rfl))) ?_
 refine PR_free (by rfl) (by rfl) (by rfl) (by exact wn0 rfl) (fun wS => (x_slice_hi (sz := k_Handle.sz) (A := A) (n := a0.length) (c := c) (k := .i64) (j := i) sl87 sz81 (by rfl) (by rfl) h0 (by omega))) ?_
 refine PR_free (by rfl) (by rfl) (by rfl) (by exact wn0 rfl) (fun wS => (x_move (v := .slice A a0.length c) (by rfl))) ?_
 refine PR_free (by rfl) (by rfl) (by rfl) (by exact wn0 rfl) (fun wS => (x_move (v := .int .i64 j) (by rfl))) ?_
 refine PR_free (by rfl) (by rfl) (by rfl) (by exact wn0 rfl) (fun wS => (x_slice_lo (sz := k_Handle.sz) (A := A) (n := a0.length) (c := c) (k := .i64) (j := j) sl87 sz81 (by rfl) (by rfl) (by omega) h2)) ?_
 refine PR_tail (by rfl) (O_cutAppend (D := k_Handle) (i := 0) (j := 0) (xs := a0) (A := A) (lo := i.toNat) (b := j.toNat) (by exact wn0 rfl) (by rfl) (by rfl) rfl (by rfl) rfl rfl H (by rfl) (by rfl) (by omega) (by omega) (by omega) hres sl87 sz81 (fun w3 cs3 (H : Sep ok w0 w3 [.row (.slice A res.length c) 81 k_Handle.sz res.length cs3] [RE.chunks k_Handle cs3 res]) => ?_)) 
 refine PR_free (by rfl) (by rfl) (by rfl) (by exact wn0 rfl) (fun wS => (x_assign (v := .slice A res.length c) (by rfl))) ?_
 refine PR_nil ?_
 refine W_seq ?_
 refine W_region ?_
 refine RL_pure (by exact wn0 rfl) (by rfl) (by rfl) (x_move (v := .slice A res.length c) (by rfl)) ?_
 refine RL_pure (by exact wn0 rfl) (by rfl) (by rfl) (x_move (v := .slice A res.length c) (by rfl)) ?_
 refine RL_pure (by exact wn0 rfl) (by rfl) (by rfl) (x_len sl87 (by rfl)) ?_
 refine RL_pure (by exact wn0 rfl) (by rfl) (by rfl) (x_move (v := .int .i64 (a0.length : Int)) (by rfl)) ?_
 refine RL_pure (by exact wn0 rfl) (by rfl) (by rfl) (x_slice_lh (sz := k_Handle.sz) (A := A) (n := res.length) (c := c) (k := .i64) (k2 := .i64) (j := (res.length : Int)) (j2 := (a0.length : Int)) sl87 sz81 (by rfl) (by rfl) (by rfl) (by omega) (by omega) (by omega)) ?_
 refine RL_cons (O_clearPast (D := k_Handle) (i := 0) (j := 0) (xs := res) (A := A) (lo := res.length) (x0 := (⟨0, 0⟩ : S_Handle)) (by exact wn0 rfl) (by rfl) rfl H (by rfl) (by rfl) (Nat.le_refl _) (by omega) sl87 ze81 (by rfl) (fun _ _ => rfl) (fun w4 (H : Sep ok w0 w4 [.row (.slice A res.length c) 81 k_Handle.sz res.length cs3] [RE.chunks k_Handle cs3 res]) => ?_))
 refine RL_nil ?_
 refine W_seq ?_
 refine W_region ?_
 refine RL_pure (by exact wn0 rfl) (by rfl) (by rfl) (x_move (v := .slice A res.length c) (by rfl)) ?_
 refine RL_pure (by exact wn0 rfl) (by rfl) (by rfl) (x_assign (v := .slice A res.length c) (by rfl)) ?_
 refine RL_nil ?_
 refine W_ret ?_
 exact ⟨[.slice A res.length c], (.tmp (by rfl) rfl), A, c, cs3, rfl, H⟩
end Go.Proofs.YtobkigllalbkiaaV.M
