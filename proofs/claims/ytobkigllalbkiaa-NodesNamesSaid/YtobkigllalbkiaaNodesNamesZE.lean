/- Proved: NodesNames returns true, whatever world it is called in, and leaves all memory as it was. No condition. -/
import Derived.Test.YtobkigllalbkiaaNodesNamesZD
/- A plain Lean function that answers as the Go function does (none: not told), and the proof that a call answers so. Written by program. -/
set_option linter.unusedVariables false
namespace Go.Proofs.YtobkigllalbkiaaV.M
open Go.RowKit Go.Proofs.YtobkigllalbkiaaV
/-- diorama/nodes.Reaches -/
def m46 (K : Nat) (a0 : S_Graph) (a1 : S_Handle) (a2 : S_Handle) : Option (Bool × Int) :=
 ((m79 K a0 ([a1, a2])).bind fun v20 => (bif (v20 != 0) then some (false, v20) else ((m80 K a0 a1 a2).bind fun v23 => some (v23, 0))))
set_option maxRecDepth 100000 in
set_option maxHeartbeats 4000000 in
theorem c46 (ok : Okp) (K : Nat) (w : World) (a0 : S_Graph) (A1 : Option Addr) (cp2 : Nat) (A5 : Option Addr) (cp6 : Nat) (a1 : S_Handle) (a2 : S_Handle) (hR3 : Rd k_Slot w ok A1 cp2 a0.Arena.Slots) (hR7 : Rd (Kd.slice k_Handle) w ok A5 cp6 a0.Kids) (res : Bool × Int) (hm : m46 K a0 a1 a2 = some res) :
  Calls Try.prog 46 #[.agg #[.slice A1 a0.Arena.Slots.length cp2, .slice A5 a0.Kids.length cp6], .agg #[.int .i64 a1.Slot, .int .i64 a1.Gen], .agg #[.int .i64 a2.Slot, .int .i64 a2.Gen]] w (fun e w' => e = .returned (tup [.bool res.1, .int .i64 res.2]) ∧ Sep ok w w' [] []) := by
 refine calls_W (args := [.agg #[.slice A1 a0.Arena.Slots.length cp2, .slice A5 a0.Kids.length cp6], .agg #[.int .i64 a1.Slot, .int .i64 a1.Gen], .agg #[.int .i64 a2.Slot, .int .i64 a2.Gen]]) Try.func46 rfl Try.ntmps46 Try.results46 rfl fun r hr => ?_
 obtain ⟨r1, rfl⟩ := regen (r := r) [(0, .agg #[.slice A1 a0.Arena.Slots.length cp2, .slice A5 a0.Kids.length cp6]), (1, .agg #[.int .i64 a1.Slot, .int .i64 a1.Gen]), (2, .agg #[.int .i64 a2.Slot, .int .i64 a2.Gen])] ⟨hr 0 _ rfl, hr 1 _ rfl, hr 2 _ rfl, trivial⟩
 have H : Sep ok w w [] [RE.rd k_Slot A1 cp2 a0.Arena.Slots, RE.rd (Kd.slice k_Handle) A5 cp6 a0.Kids] := Sep.arg (Sep.arg (Sep.start ok w) (re := RE.rd k_Slot A1 cp2 a0.Arena.Slots) rfl rfl hR3) (re := RE.rd (Kd.slice k_Handle) A5 cp6 a0.Kids) rfl rfl hR7
 unfold m46 at hm
 refine W_seq ?_
 refine W_region ?_
 refine RL_cons (O_box (by exact wn0 rfl) (by rfl) (by rfl) (by rfl) H (fun w10 b9 (H : Sep ok w w10 [.blk b9 79 [.slice A1 a0.Arena.Slots.length cp2, .slice A5 a0.Kids.length cp6]] [RE.rd k_Slot A1 cp2 a0.Arena.Slots, RE.rd (Kd.slice k_Handle) A5 cp6 a0.Kids]) => ?_))
 refine RL_cons (O_box (by exact wn0 rfl) (by rfl) (by rfl) (by rfl) H (fun w12 b11 (H : Sep ok w w12 [.blk b9 79 [.slice A1 a0.Arena.Slots.length cp2, .slice A5 a0.Kids.length cp6], .blk b11 81 [.int .i64 a1.Slot, .int .i64 a1.Gen]] [RE.rd k_Slot A1 cp2 a0.Arena.Slots, RE.rd (Kd.slice k_Handle) A5 cp6 a0.Kids]) => ?_))
 refine RL_cons (O_box (by exact wn0 rfl) (by rfl) (by rfl) (by rfl) H (fun w14 b13 (H : Sep ok w w14 [.blk b9 79 [.slice A1 a0.Arena.Slots.length cp2, .slice A5 a0.Kids.length cp6], .blk b11 81 [.int .i64 a1.Slot, .int .i64 a1.Gen], .blk b13 81 [.int .i64 a2.Slot, .int .i64 a2.Gen]] [RE.rd k_Slot A1 cp2 a0.Arena.Slots, RE.rd (Kd.slice k_Handle) A5 cp6 a0.Kids]) => ?_))
 refine RL_pure (by exact wn0 rfl) (by rfl) (by rfl) (x_assign (v := .bool false) (by rfl)) ?_
 refine RL_pure (by exact wn0 rfl) (by rfl) (by rfl) (x_assign (v := .int .i64 0) (by rfl)) ?_
 refine RL_nil ?_
 refine W_seq ?_
 refine W_seq ?_
 refine W_region ?_
 refine RL_pure (by exact wn0 rfl) (by rfl) (by rfl) (x_loadA (j := 0) (vs := [.slice A1 a0.Arena.Slots.length cp2, .slice A5 a0.Kids.length cp6]) ag79 (by rfl) (H.cells (i := 0) (by rfl)) (by rfl) (by rfl)) ?_
 refine RL_pure (by exact wn0 rfl) (by rfl) (by rfl) (x_loadA (j := 0) (vs := [.int .i64 a1.Slot, .int .i64 a1.Gen]) ag81 (by rfl) (H.cells (i := 1) (by rfl)) (by rfl) (by rfl)) ?_
 refine RL_pure (by exact wn0 rfl) (by rfl) (by rfl) (x_loadA (j := 0) (vs := [.int .i64 a2.Slot, .int .i64 a2.Gen]) ag81 (by rfl) (H.cells (i := 2) (by rfl)) (by rfl) (by rfl)) ?_
 refine RL_cons (O_buildSlice (vs := [(0, .agg #[.int .i64 a1.Slot, .int .i64 a1.Gen]), (1, .agg #[.int .i64 a2.Slot, .int .i64 a2.Gen])]) (cs := [.int .i64 a1.Slot, .int .i64 a1.Gen, .int .i64 a2.Slot, .int .i64 a2.Gen]) (by exact wn0 rfl) (by rfl) sl87 sz81 ze81 (by rfl) (by rfl) (by rfl) (by kernel_rfl) H (fun w16 b15 (H : Sep ok w w16 [.blk b9 79 [.slice A1 a0.Arena.Slots.length cp2, .slice A5 a0.Kids.length cp6], .blk b11 81 [.int .i64 a1.Slot, .int .i64 a1.Gen], .blk b13 81 [.int .i64 a2.Slot, .int .i64 a2.Gen], .blk b15 81 [.int .i64 a1.Slot, .int .i64 a1.Gen, .int .i64 a2.Slot, .int .i64 a2.Gen]] [RE.rd k_Slot A1 cp2 a0.Arena.Slots, RE.rd (Kd.slice k_Handle) A5 cp6 a0.Kids]) => ?_))
 have H : Sep ok w w16 [.blk b9 79 [.slice A1 a0.Arena.Slots.length cp2, .slice A5 a0.Kids.length cp6], .blk b11 81 [.int .i64 a1.Slot, .int .i64 a1.Gen], .blk b13 81 [.int .i64 a2.Slot, .int .i64 a2.Gen], .row (.slice (some ⟨b15, 0, none⟩) ([a1, a2]).length 2) 81 k_Handle.sz ([a1, a2]).length [.int .i64 a1.Slot, .int .i64 a1.Gen, .int .i64 a2.Slot, .int .i64 a2.Gen]] [RE.rd k_Slot A1 cp2 a0.Arena.Slots, RE.rd (Kd.slice k_Handle) A5 cp6 a0.Kids, RE.chunks k_Handle [.int .i64 a1.Slot, .int .i64 a1.Gen, .int .i64 a2.Slot, .int .i64 a2.Gen] ([a1, a2])] := H.rowOf (i := 3) (D := k_Handle) (xs := [a1, a2]) (by rfl) (by exact ⟨rfl, rfl, rfl⟩) (by rfl)
 obtain ⟨v20, hv19, hm⟩ := bind_some hm
 refine RL_cons (O_call (by exact wn0 rfl) (by rfl) (by rfl) (x_callL (by rfl) (args := [.agg #[.slice A1 a0.Arena.Slots.length cp2, .slice A5 a0.Kids.length cp6], .slice (some ⟨b15, 0, none⟩) ([a1, a2]).length 2]) (by rfl) (cf79 _ _)) (c79 okT K w16 a0 A1 cp2 A5 cp6 ([a1, a2]) (some ⟨b15, 0, none⟩) 2 (H.rd (i := 0) (by rfl)).any (H.rd (i := 1) (by rfl)).any (H.rowRd (i := 3) (j := 2) (by rfl) (by rfl)) v20 hv19) ?_)
 rintro e w21 ⟨rfl, H2⟩
 have H : Sep ok w w21 [.blk b9 79 [.slice A1 a0.Arena.Slots.length cp2, .slice A5 a0.Kids.length cp6], .blk b11 81 [.int .i64 a1.Slot, .int .i64 a1.Gen], .blk b13 81 [.int .i64 a2.Slot, .int .i64 a2.Gen], .row (.slice (some ⟨b15, 0, none⟩) ([a1, a2]).length 2) 81 k_Handle.sz ([a1, a2]).length [.int .i64 a1.Slot, .int .i64 a1.Gen, .int .i64 a2.Slot, .int .i64 a2.Gen]] [RE.rd k_Slot A1 cp2 a0.Arena.Slots, RE.rd (Kd.slice k_Handle) A5 cp6 a0.Kids, RE.chunks k_Handle [.int .i64 a1.Slot, .int .i64 a1.Gen, .int .i64 a2.Slot, .int .i64 a2.Gen] ([a1, a2])] := H.below H2.base
 clear H2
 refine ⟨_, rfl, ?_⟩
 show RL _ _ _ _ _ _ _
 refine RL_pure (by exact wn0 rfl) (by rfl) (by rfl) (x_assign (v := .int .i64 v20) (by rfl)) ?_
 refine RL_nil ?_
 refine W_seq ?_
 refine W_region ?_
 refine RL_pure (by exact wn0 rfl) (by rfl) (by rfl) (x_move (v := .int .i64 v20) (by rfl)) ?_
 refine RL_pure (by exact wn0 rfl) (by rfl) (by rfl) (x_neq (by rfl) (by rfl)) ?_
 refine RL_nil ?_
 refine W_cond (by rfl) (fun hb => ?_) (fun hb => ?_)
 ·have hm := cond_t hb hm
  refine W_seq ?_
  refine W_region ?_
  refine RL_pure (by exact wn0 rfl) (by rfl) (by rfl) (x_move (v := .int .i64 v20) (by rfl)) ?_
  refine RL_pure (by exact wn0 rfl) (by rfl) (by rfl) (x_assign (v := .bool false) (by rfl)) ?_
  refine RL_pure (by exact wn0 rfl) (by rfl) (by rfl) (x_assign (v := .int .i64 v20) (by rfl)) ?_
  refine RL_nil ?_
  refine W_ret ?_
  obtain rfl := Option.some.inj hm
  exact ⟨[.bool false, .int .i64 v20], (.tmp (by rfl) (.tmp (by rfl) rfl)), rfl, H.none_⟩
 ·have hm := cond_f hb hm
  refine W_skip ?_
  refine W_seq ?_
  refine W_region ?_
  refine RL_pure (by exact wn0 rfl) (by rfl) (by rfl) (x_loadA (j := 0) (vs := [.slice A1 a0.Arena.Slots.length cp2, .slice A5 a0.Kids.length cp6]) ag79 (by rfl) (H.cells (i := 0) (by rfl)) (by rfl) (by rfl)) ?_
  refine RL_pure (by exact wn0 rfl) (by rfl) (by rfl) (x_loadA (j := 0) (vs := [.int .i64 a1.Slot, .int .i64 a1.Gen]) ag81 (by rfl) (H.cells (i := 1) (by rfl)) (by rfl) (by rfl)) ?_
  refine RL_pure (by exact wn0 rfl) (by rfl) (by rfl) (x_loadA (j := 0) (vs := [.int .i64 a2.Slot, .int .i64 a2.Gen]) ag81 (by rfl) (H.cells (i := 2) (by rfl)) (by rfl) (by rfl)) ?_
  obtain ⟨v23, hv22, hm⟩ := bind_some hm
  refine RL_cons (O_call (by exact wn0 rfl) (by rfl) (by rfl) (x_callL (by rfl) (args := [.agg #[.slice A1 a0.Arena.Slots.length cp2, .slice A5 a0.Kids.length cp6], .agg #[.int .i64 a1.Slot, .int .i64 a1.Gen], .agg #[.int .i64 a2.Slot, .int .i64 a2.Gen]]) (by rfl) (cf80 _ _)) (c80 okT K w21 a0 A1 cp2 A5 cp6 a1 a2 (H.rd (i := 0) (by rfl)).any (H.rd (i := 1) (by rfl)).any v23 hv22) ?_)
  rintro e w24 ⟨rfl, H2⟩
  have H : Sep ok w w24 [.blk b9 79 [.slice A1 a0.Arena.Slots.length cp2, .slice A5 a0.Kids.length cp6], .blk b11 81 [.int .i64 a1.Slot, .int .i64 a1.Gen], .blk b13 81 [.int .i64 a2.Slot, .int .i64 a2.Gen], .row (.slice (some ⟨b15, 0, none⟩) ([a1, a2]).length 2) 81 k_Handle.sz ([a1, a2]).length [.int .i64 a1.Slot, .int .i64 a1.Gen, .int .i64 a2.Slot, .int .i64 a2.Gen]] [RE.rd k_Slot A1 cp2 a0.Arena.Slots, RE.rd (Kd.slice k_Handle) A5 cp6 a0.Kids, RE.chunks k_Handle [.int .i64 a1.Slot, .int .i64 a1.Gen, .int .i64 a2.Slot, .int .i64 a2.Gen] ([a1, a2])] := H.below H2.base
  clear H2
  refine ⟨_, rfl, ?_⟩
  show RL _ _ _ _ _ _ _
  refine RL_pure (by exact wn0 rfl) (by rfl) (by rfl) (x_assign (v := .bool v23) (by rfl)) ?_
  refine RL_pure (by exact wn0 rfl) (by rfl) (by rfl) (x_assign (v := .int .i64 0) (by rfl)) ?_
  refine RL_nil ?_
  refine W_ret ?_
  obtain rfl := Option.some.inj hm
  exact ⟨[.bool v23, .int .i64 0], (.tmp (by rfl) (.tmp (by rfl) rfl)), rfl, H.none_⟩
end Go.Proofs.YtobkigllalbkiaaV.M

/- A plain Lean function that answers as the Go function does (none: not told), and the proof that a call answers so. Written by program. -/
set_option linter.unusedVariables false
namespace Go.Proofs.YtobkigllalbkiaaV.M
open Go.RowKit Go.Proofs.YtobkigllalbkiaaV
def m87_l2b (K : Nat) (a0 : S_Graph) (a1 : S_Handle) (y22_1 : Int) (rec1 : (List S_Handle) → Int → Option ((List S_Handle) × Int)) (el23 : (List S_Handle)) (rec2 : (List S_Handle) → Int → Option ((List S_Handle) × Int)) (l_row57_2 : (List S_Handle)) (y29_2 : Int) : Option ((List S_Handle) × Int) :=
 (bif (decide (y29_2 < (el23.length : Int))) then (idx el23 y29_2 fun el42 => (bif ((el42.Slot == a1.Slot) && (el42.Gen == a1.Gen)) then (idx a0.Arena.Slots y22_1 fun el52 => (apd 16 l_row57_2 (⟨y22_1, el52.Gen⟩ : S_Handle) fun l65 => (ck (y29_2 + 1) fun x68 => (rec2 l65 x68)))) else (ck (y29_2 + 1) fun x69 => (rec2 l_row57_2 x69)))) else (ck (y22_1 + 1) fun x70 => (rec1 l_row57_2 x70)))
def m87_l2 (K : Nat) (a0 : S_Graph) (a1 : S_Handle) (y22_1 : Int) (rec1 : (List S_Handle) → Int → Option ((List S_Handle) × Int)) (el23 : (List S_Handle)) : Nat → (List S_Handle) → Int → Option ((List S_Handle) × Int)
 | 0 => fun _ _ => none
 | k + 1 => m87_l2b K a0 a1 y22_1 rec1 el23 (m87_l2 K a0 a1 y22_1 rec1 el23 k)
def m87_l1b (K : Nat) (a0 : S_Graph) (a1 : S_Handle) (rec1 : (List S_Handle) → Int → Option ((List S_Handle) × Int)) (l_row57_1 : (List S_Handle)) (y22_1 : Int) : Option ((List S_Handle) × Int) :=
 (bif (decide (y22_1 < (a0.Kids.length : Int))) then (idx a0.Kids y22_1 fun el23 => m87_l2 K a0 a1 y22_1 rec1 el23 K l_row57_1 0) else some (l_row57_1, 0))
def m87_l1 (K : Nat) (a0 : S_Graph) (a1 : S_Handle) : Nat → (List S_Handle) → Int → Option ((List S_Handle) × Int)
 | 0 => fun _ _ => none
 | k + 1 => m87_l1b K a0 a1 (m87_l1 K a0 a1 k)
/-- diorama/nodes.Parents -/
def m87 (K : Nat) (a0 : S_Graph) (a1 : S_Handle) : Option ((List S_Handle) × Int) :=
 ((m79 K a0 ([a1])).bind fun v18 => (bif (v18 != 0) then some ([], v18) else m87_l1 K a0 a1 K ([]) 0))
set_option maxRecDepth 100000 in
set_option maxHeartbeats 4000000 in
theorem c87 (ok : Okp) (K : Nat) (w : World) (a0 : S_Graph) (A1 : Option Addr) (cp2 : Nat) (A5 : Option Addr) (cp6 : Nat) (a1 : S_Handle) (hR3 : Rd k_Slot w ok A1 cp2 a0.Arena.Slots) (hR7 : Rd (Kd.slice k_Handle) w ok A5 cp6 a0.Kids) (res : (List S_Handle) × Int) (hm : m87 K a0 a1 = some res) :
  Calls Try.prog 87 #[.agg #[.slice A1 a0.Arena.Slots.length cp2, .slice A5 a0.Kids.length cp6], .agg #[.int .i64 a1.Slot, .int .i64 a1.Gen]] w (fun e w' => ∃ (A0_ : Option Addr) (c0_ : Nat), e = .returned (tup [.slice A0_ res.1.length c0_, .int .i64 res.2]) ∧ Sep ok w w' [] [RE.rd k_Handle A0_ c0_ res.1]) := by
 refine calls_W (args := [.agg #[.slice A1 a0.Arena.Slots.length cp2, .slice A5 a0.Kids.length cp6], .agg #[.int .i64 a1.Slot, .int .i64 a1.Gen]]) Try.func87 rfl Try.ntmps87 Try.results87 rfl fun r hr => ?_
 obtain ⟨r1, rfl⟩ := regen (r := r) [(0, .agg #[.slice A1 a0.Arena.Slots.length cp2, .slice A5 a0.Kids.length cp6]), (1, .agg #[.int .i64 a1.Slot, .int .i64 a1.Gen])] ⟨hr 0 _ rfl, hr 1 _ rfl, trivial⟩
 have H : Sep ok w w [] [RE.rd k_Slot A1 cp2 a0.Arena.Slots, RE.rd (Kd.slice k_Handle) A5 cp6 a0.Kids] := Sep.arg (Sep.arg (Sep.start ok w) (re := RE.rd k_Slot A1 cp2 a0.Arena.Slots) rfl rfl hR3) (re := RE.rd (Kd.slice k_Handle) A5 cp6 a0.Kids) rfl rfl hR7
 unfold m87 at hm
 refine W_seq ?_
 refine W_region ?_
 refine RL_cons (O_box (by exact wn0 rfl) (by rfl) (by rfl) (by rfl) H (fun w10 b9 (H : Sep ok w w10 [.blk b9 79 [.slice A1 a0.Arena.Slots.length cp2, .slice A5 a0.Kids.length cp6]] [RE.rd k_Slot A1 cp2 a0.Arena.Slots, RE.rd (Kd.slice k_Handle) A5 cp6 a0.Kids]) => ?_))
 refine RL_cons (O_box (by exact wn0 rfl) (by rfl) (by rfl) (by rfl) H (fun w12 b11 (H : Sep ok w w12 [.blk b9 79 [.slice A1 a0.Arena.Slots.length cp2, .slice A5 a0.Kids.length cp6], .blk b11 81 [.int .i64 a1.Slot, .int .i64 a1.Gen]] [RE.rd k_Slot A1 cp2 a0.Arena.Slots, RE.rd (Kd.slice k_Handle) A5 cp6 a0.Kids]) => ?_))
 refine RL_pure (by exact wn0 rfl) (by rfl) (by rfl) (x_assign (v := .slice none 0 0) (by rfl)) ?_
 refine RL_pure (by exact wn0 rfl) (by rfl) (by rfl) (x_assign (v := .int .i64 0) (by rfl)) ?_
 refine RL_nil ?_
 refine W_seq ?_
 refine W_seq ?_
 refine W_region ?_
 refine RL_pure (by exact wn0 rfl) (by rfl) (by rfl) (x_loadA (j := 0) (vs := [.slice A1 a0.Arena.Slots.length cp2, .slice A5 a0.Kids.length cp6]) ag79 (by rfl) (H.cells (i := 0) (by rfl)) (by rfl) (by rfl)) ?_
 refine RL_pure (by exact wn0 rfl) (by rfl) (by rfl) (x_loadA (j := 0) (vs := [.int .i64 a1.Slot, .int .i64 a1.Gen]) ag81 (by rfl) (H.cells (i := 1) (by rfl)) (by rfl) (by rfl)) ?_
 refine RL_cons (O_buildSlice (vs := [(0, .agg #[.int .i64 a1.Slot, .int .i64 a1.Gen])]) (cs := [.int .i64 a1.Slot, .int .i64 a1.Gen]) (by exact wn0 rfl) (by rfl) sl87 sz81 ze81 (by rfl) (by rfl) (by rfl) (by kernel_rfl) H (fun w14 b13 (H : Sep ok w w14 [.blk b9 79 [.slice A1 a0.Arena.Slots.length cp2, .slice A5 a0.Kids.length cp6], .blk b11 81 [.int .i64 a1.Slot, .int .i64 a1.Gen], .blk b13 81 [.int .i64 a1.Slot, .int .i64 a1.Gen]] [RE.rd k_Slot A1 cp2 a0.Arena.Slots, RE.rd (Kd.slice k_Handle) A5 cp6 a0.Kids]) => ?_))
 have H : Sep ok w w14 [.blk b9 79 [.slice A1 a0.Arena.Slots.length cp2, .slice A5 a0.Kids.length cp6], .blk b11 81 [.int .i64 a1.Slot, .int .i64 a1.Gen], .row (.slice (some ⟨b13, 0, none⟩) ([a1]).length 1) 81 k_Handle.sz ([a1]).length [.int .i64 a1.Slot, .int .i64 a1.Gen]] [RE.rd k_Slot A1 cp2 a0.Arena.Slots, RE.rd (Kd.slice k_Handle) A5 cp6 a0.Kids, RE.chunks k_Handle [.int .i64 a1.Slot, .int .i64 a1.Gen] ([a1])] := H.rowOf (i := 2) (D := k_Handle) (xs := [a1]) (by rfl) (by exact ⟨rfl, rfl⟩) (by rfl)
 obtain ⟨v18, hv17, hm⟩ := bind_some hm
 refine RL_cons (O_call (by exact wn0 rfl) (by rfl) (by rfl) (x_callL (by rfl) (args := [.agg #[.slice A1 a0.Arena.Slots.length cp2, .slice A5 a0.Kids.length cp6], .slice (some ⟨b13, 0, none⟩) ([a1]).length 1]) (by rfl) (cf79 _ _)) (c79 okT K w14 a0 A1 cp2 A5 cp6 ([a1]) (some ⟨b13, 0, none⟩) 1 (H.rd (i := 0) (by rfl)).any (H.rd (i := 1) (by rfl)).any (H.rowRd (i := 2) (j := 2) (by rfl) (by rfl)) v18 hv17) ?_)
 rintro e w19 ⟨rfl, H2⟩
 have H : Sep ok w w19 [.blk b9 79 [.slice A1 a0.Arena.Slots.length cp2, .slice A5 a0.Kids.length cp6], .blk b11 81 [.int .i64 a1.Slot, .int .i64 a1.Gen], .row (.slice (some ⟨b13, 0, none⟩) ([a1]).length 1) 81 k_Handle.sz ([a1]).length [.int .i64 a1.Slot, .int .i64 a1.Gen]] [RE.rd k_Slot A1 cp2 a0.Arena.Slots, RE.rd (Kd.slice k_Handle) A5 cp6 a0.Kids, RE.chunks k_Handle [.int .i64 a1.Slot, .int .i64 a1.Gen] ([a1])] := H.below H2.base
 clear H2
 refine ⟨_, rfl, ?_⟩
 show RL _ _ _ _ _ _ _
 refine RL_pure (by exact wn0 rfl) (by rfl) (by rfl) (x_assign (v := .int .i64 v18) (by rfl)) ?_
 refine RL_nil ?_
 refine W_seq ?_
 refine W_region ?_
 refine RL_pure (by exact wn0 rfl) (by rfl) (by rfl) (x_move (v := .int .i64 v18) (by rfl)) ?_
 refine RL_pure (by exact wn0 rfl) (by rfl) (by rfl) (x_neq (by rfl) (by rfl)) ?_
 refine RL_nil ?_
 refine W_cond (by rfl) (fun hb => ?_) (fun hb => ?_)
 ·have hm := cond_t hb hm
  refine W_seq ?_
  refine W_region ?_
  refine RL_pure (by exact wn0 rfl) (by rfl) (by rfl) (x_move (v := .int .i64 v18) (by rfl)) ?_
  refine RL_pure (by exact wn0 rfl) (by rfl) (by rfl) (x_assign (v := .slice none 0 0) (by rfl)) ?_
  refine RL_pure (by exact wn0 rfl) (by rfl) (by rfl) (x_assign (v := .int .i64 v18) (by rfl)) ?_
  refine RL_nil ?_
  refine W_ret ?_
  have H : Sep ok w w19 [.blk b9 79 [.slice A1 a0.Arena.Slots.length cp2, .slice A5 a0.Kids.length cp6], .blk b11 81 [.int .i64 a1.Slot, .int .i64 a1.Gen], .row (.slice (some ⟨b13, 0, none⟩) ([a1]).length 1) 81 k_Handle.sz ([a1]).length [.int .i64 a1.Slot, .int .i64 a1.Gen]] [RE.rd k_Slot A1 cp2 a0.Arena.Slots, RE.rd (Kd.slice k_Handle) A5 cp6 a0.Kids, RE.chunks k_Handle [.int .i64 a1.Slot, .int .i64 a1.Gen] ([a1]), RE.rd k_Handle none 0 ([])] := Sep.also H (re := RE.rd k_Handle none 0 ([])) (Rd.nil (by decide))
  obtain rfl := Option.some.inj hm
  exact ⟨[.slice none 0 0, .int .i64 v18], (.tmp (by rfl) (.tmp (by rfl) rfl)), none, 0, rfl, (H.forgetAll).pick [3]⟩
 ·have hm := cond_f hb hm
  refine W_skip ?_
  refine W_seq ?_
  refine W_region ?_
  refine RL_pure (by exact wn0 rfl) (by rfl) (by rfl) (x_assign (v := .slice none 0 0) (by rfl)) ?_
  refine RL_nil ?_
  refine W_seq ?_
  refine W_seq ?_
  refine W_region ?_
  refine RL_pure (by exact wn0 rfl) (by rfl) (by rfl) (x_fieldAddr fo79_1 (by rfl)) ?_
  refine RL_pure (by exact wn0 rfl) (by rfl) (by rfl) (x_load (j := 1) (v := .slice A5 a0.Kids.length cp6) sc77 (by rfl) (H.cells (i := 0) (by rfl)) (by rfl)) ?_
  refine RL_pure (by exact wn0 rfl) (by rfl) (by rfl) (x_len sl77 (by rfl)) ?_
  refine RL_pure (by exact wn0 rfl) (by rfl) (by rfl) (x_move (v := .int .i64 0) (by rfl)) ?_
  refine RL_nil ?_
  refine W_block ?_
  refine W_loop (fun k1 r' w' => ∃ (l_row57_1 : (List S_Handle)), ∃ (y22_1 : Int), ∃ (A_row57_1 : Option Addr), ∃ (c_row57_1 : Nat), ∃ (cs_row57_1 : List Value), m87_l1 K a0 a1 k1 l_row57_1 y22_1 = some res ∧ Agr [(2, .pointer (some ⟨b9, 0, none⟩)), (3, .pointer (some ⟨b11, 0, none⟩)), (7, .slice A_row57_1 l_row57_1.length c_row57_1), (20, .slice A5 a0.Kids.length cp6), (21, .int .i64 (a0.Kids.length : Int)), (22, .int .i64 y22_1)] r' ∧ Sep ok w w' [.blk b9 79 [.slice A1 a0.Arena.Slots.length cp2, .slice A5 a0.Kids.length cp6], .blk b11 81 [.int .i64 a1.Slot, .int .i64 a1.Gen], .row (.slice (some ⟨b13, 0, none⟩) ([a1]).length 1) 81 k_Handle.sz ([a1]).length [.int .i64 a1.Slot, .int .i64 a1.Gen], .row (.slice A_row57_1 l_row57_1.length c_row57_1) 81 k_Handle.sz l_row57_1.length cs_row57_1] [RE.rd k_Slot A1 cp2 a0.Arena.Slots, RE.rd (Kd.slice k_Handle) A5 cp6 a0.Kids, RE.chunks k_Handle [.int .i64 a1.Slot, .int .i64 a1.Gen] ([a1]), RE.chunks k_Handle cs_row57_1 l_row57_1]) K ?_ ?_
  ·exact ⟨[], 0, none, 0, [], hm, ⟨rfl, rfl, rfl, rfl, rfl, rfl, trivial⟩, (H).nilRowK 81 k_Handle⟩
  ·rintro k1 r' w' ⟨l_row57_1, y22_1, A_row57_1, c_row57_1, cs_row57_1, hm, hA, H⟩
   obtain ⟨r21, rfl⟩ := regen _ hA; clear hA
   obtain ⟨w22, rfl⟩ : ∃ W : World, W = w' := ⟨_, rfl⟩
   cases k1 with
   | zero => exact (none_some hm).elim
   | succ k1 =>
    have hm : m87_l1b K a0 a1 (m87_l1 K a0 a1 k1) l_row57_1 y22_1 = some res := hm
    unfold m87_l1b at hm
    obtain ⟨rec1, hrec1⟩ : ∃ f, m87_l1 K a0 a1 k1 = f := ⟨_, rfl⟩
    rw [hrec1] at hm
    refine W_seq ?_
    refine W_region ?_
    refine RL_pure (by exact wn0 rfl) (by rfl) (by rfl) (x_lss (by rfl) (by rfl)) ?_
    refine RL_nil ?_
    refine W_seq ?_
    refine W_cond (by rfl) (fun hb => ?_) (fun hb => ?_)
    ·have hm := cond_t hb hm
     refine W_skip ?_
     refine W_seq ?_
     refine W_block ?_
     refine W_seq ?_
     refine W_region ?_
     refine RL_pure (by exact wn0 rfl) (by rfl) (by rfl) (x_move (v := .int .i64 y22_1) (by rfl)) ?_
     obtain ⟨el23, h24, h25, he26, hm⟩ := idx_some hm
     obtain ⟨g28, o29, hA27⟩ := (H.rd (i := 1) (by rfl)).addr he26
     obtain ⟨cs30, hk31, hat32, hg_cs30⟩ := (H.rd (i := 1) (by rfl)).openAt hA27 he26
     obtain ⟨A35, cp36, rfl, hR38⟩ := hk31
     have H : Sep ok w w22 [.blk b9 79 [.slice A1 a0.Arena.Slots.length cp2, .slice A5 a0.Kids.length cp6], .blk b11 81 [.int .i64 a1.Slot, .int .i64 a1.Gen], .row (.slice (some ⟨b13, 0, none⟩) ([a1]).length 1) 81 k_Handle.sz ([a1]).length [.int .i64 a1.Slot, .int .i64 a1.Gen], .row (.slice A_row57_1 l_row57_1.length c_row57_1) 81 k_Handle.sz l_row57_1.length cs_row57_1] [RE.rd k_Slot A1 cp2 a0.Arena.Slots, RE.rd (Kd.slice k_Handle) A5 cp6 a0.Kids, RE.chunks k_Handle [.int .i64 a1.Slot, .int .i64 a1.Gen] ([a1]), RE.chunks k_Handle cs_row57_1 l_row57_1, RE.cells g28 (o29 + (y22_1).toNat * 1) [.slice A35 el23.length cp36]] := Sep.also H (re := RE.cells g28 (o29 + (y22_1).toNat * 1) [.slice A35 el23.length cp36]) ⟨hg_cs30, hat32⟩
     have H : Sep ok w w22 [.blk b9 79 [.slice A1 a0.Arena.Slots.length cp2, .slice A5 a0.Kids.length cp6], .blk b11 81 [.int .i64 a1.Slot, .int .i64 a1.Gen], .row (.slice (some ⟨b13, 0, none⟩) ([a1]).length 1) 81 k_Handle.sz ([a1]).length [.int .i64 a1.Slot, .int .i64 a1.Gen], .row (.slice A_row57_1 l_row57_1.length c_row57_1) 81 k_Handle.sz l_row57_1.length cs_row57_1] [RE.rd k_Slot A1 cp2 a0.Arena.Slots, RE.rd (Kd.slice k_Handle) A5 cp6 a0.Kids, RE.chunks k_Handle [.int .i64 a1.Slot, .int .i64 a1.Gen] ([a1]), RE.chunks k_Handle cs_row57_1 l_row57_1, RE.cells g28 (o29 + (y22_1).toNat * 1) [.slice A35 el23.length cp36], RE.rd k_Handle A35 cp36 el23] := Sep.also H (re := RE.rd k_Handle A35 cp36 el23) hR38
     refine RL_pure (by exact wn0 rfl) (by rfl) (by rfl) (x_indexAddr sl77 sz87 (by rfl) (by rfl) hA27 h24 h25) ?_
     refine RL_pure (by exact wn0 rfl) (by rfl) (by rfl) (x_load (j := 0) (v := .slice A35 el23.length cp36) sc87 (by rfl) (H.cellsR (i := 4) (by rfl)) (by rfl)) ?_
     refine RL_pure (by exact wn0 rfl) (by rfl) (by rfl) (x_assign (v := .int .i64 y22_1) (by rfl)) ?_
     refine RL_pure (by exact wn0 rfl) (by rfl) (by rfl) (x_assign (v := .slice A35 el23.length cp36) (by rfl)) ?_
     refine RL_nil ?_
     refine W_seq ?_
     refine W_region ?_
     refine RL_pure (by exact wn0 rfl) (by rfl) (by rfl) (x_move (v := .slice A35 el23.length cp36) (by rfl)) ?_
     refine RL_pure (by exact wn0 rfl) (by rfl) (by rfl) (x_len sl87 (by rfl)) ?_
     refine RL_pure (by exact wn0 rfl) (by rfl) (by rfl) (x_move (v := .int .i64 0) (by rfl)) ?_
     refine RL_nil ?_
     refine W_block ?_
     refine W_loop (fun k2 r' w' => ∃ (l_row57_2 : (List S_Handle)), ∃ (y29_2 : Int), ∃ (A_row57_2 : Option Addr), ∃ (c_row57_2 : Nat), ∃ (cs_row57_2 : List Value), m87_l2 K a0 a1 y22_1 rec1 el23 k2 l_row57_2 y29_2 = some res ∧ Agr [(2, .pointer (some ⟨b9, 0, none⟩)), (3, .pointer (some ⟨b11, 0, none⟩)), (7, .slice A_row57_2 l_row57_2.length c_row57_2), (8, .int .i64 y22_1), (20, .slice A5 a0.Kids.length cp6), (21, .int .i64 (a0.Kids.length : Int)), (22, .int .i64 y22_1), (27, .slice A35 el23.length cp36), (28, .int .i64 (el23.length : Int)), (29, .int .i64 y29_2)] r' ∧ Sep ok w w' [.blk b9 79 [.slice A1 a0.Arena.Slots.length cp2, .slice A5 a0.Kids.length cp6], .blk b11 81 [.int .i64 a1.Slot, .int .i64 a1.Gen], .row (.slice (some ⟨b13, 0, none⟩) ([a1]).length 1) 81 k_Handle.sz ([a1]).length [.int .i64 a1.Slot, .int .i64 a1.Gen], .row (.slice A_row57_2 l_row57_2.length c_row57_2) 81 k_Handle.sz l_row57_2.length cs_row57_2] [RE.rd k_Slot A1 cp2 a0.Arena.Slots, RE.rd (Kd.slice k_Handle) A5 cp6 a0.Kids, RE.chunks k_Handle [.int .i64 a1.Slot, .int .i64 a1.Gen] ([a1]), RE.chunks k_Handle cs_row57_2 l_row57_2, RE.cells g28 (o29 + (y22_1).toNat * 1) [.slice A35 el23.length cp36], RE.rd k_Handle A35 cp36 el23]) K ?_ ?_
     ·exact ⟨l_row57_1, 0, A_row57_1, c_row57_1, cs_row57_1, hm, ⟨rfl, rfl, rfl, rfl, rfl, rfl, rfl, rfl, rfl, rfl, trivial⟩, H⟩
     ·rintro k2 r' w' ⟨l_row57_2, y29_2, A_row57_2, c_row57_2, cs_row57_2, hm, hA, H⟩
      obtain ⟨r40, rfl⟩ := regen _ hA; clear hA
      obtain ⟨w41, rfl⟩ : ∃ W : World, W = w' := ⟨_, rfl⟩
      cases k2 with
      | zero => exact (none_some hm).elim
      | succ k2 =>
       have hm : m87_l2b K a0 a1 y22_1 rec1 el23 (m87_l2 K a0 a1 y22_1 rec1 el23 k2) l_row57_2 y29_2 = some res := hm
       unfold m87_l2b at hm
       obtain ⟨rec2, hrec2⟩ : ∃ f, m87_l2 K a0 a1 y22_1 rec1 el23 k2 = f := ⟨_, rfl⟩
       rw [hrec2] at hm
       refine W_seq ?_
       refine W_region ?_
       refine RL_pure (by exact wn0 rfl) (by rfl) (by rfl) (x_lss (by rfl) (by rfl)) ?_
       refine RL_nil ?_
       refine W_seq ?_
       refine W_cond (by rfl) (fun hb => ?_) (fun hb => ?_)
       ·have hm := cond_t hb hm
        refine W_skip ?_
        refine W_seq ?_
        refine W_block ?_
        refine W_seq ?_
        refine W_region ?_
        obtain ⟨el42, h43, h44, he45, hm⟩ := idx_some hm
        obtain ⟨g47, o48, hA46⟩ := (H.rd (i := 5) (by rfl)).addr he45
        refine RL_pure (by exact wn0 rfl) (by rfl) (by rfl) (x_indexAddr sl87 sz81 (by rfl) (by rfl) hA46 h43 h44) ?_
        refine RL_pure (by exact wn0 rfl) (by rfl) (by rfl) (x_loadA (j := 0) (vs := [.int .i64 el42.Slot, .int .i64 el42.Gen]) ag81 (by rfl) (Rd.flatAt (n := 2) (H.rd (i := 5) (by rfl)) hA46 he45) (by rfl) (by rfl)) ?_
        refine RL_cons (O_alloc (by exact wn0 rfl) (by rfl) ze81 (by rfl) H (fun w50 b49 (H : Sep ok w w50 [.blk b9 79 [.slice A1 a0.Arena.Slots.length cp2, .slice A5 a0.Kids.length cp6], .blk b11 81 [.int .i64 a1.Slot, .int .i64 a1.Gen], .row (.slice (some ⟨b13, 0, none⟩) ([a1]).length 1) 81 k_Handle.sz ([a1]).length [.int .i64 a1.Slot, .int .i64 a1.Gen], .row (.slice A_row57_2 l_row57_2.length c_row57_2) 81 k_Handle.sz l_row57_2.length cs_row57_2, .blk b49 81 [.int .i64 0, .int .i64 0]] [RE.rd k_Slot A1 cp2 a0.Arena.Slots, RE.rd (Kd.slice k_Handle) A5 cp6 a0.Kids, RE.chunks k_Handle [.int .i64 a1.Slot, .int .i64 a1.Gen] ([a1]), RE.chunks k_Handle cs_row57_2 l_row57_2, RE.cells g28 (o29 + (y22_1).toNat * 1) [.slice A35 el23.length cp36], RE.rd k_Handle A35 cp36 el23]) => ?_))
        refine RL_cons (O_store (i := 4) (off := 0) (by exact wn0 rfl) (by rfl) (by rfl) H (by rfl) (vs := [.int .i64 el42.Slot, .int .i64 el42.Gen]) (by rfl) sz81 (by rfl) (by rfl) (by rfl) (fun w51 (H : Sep ok w w51 [.blk b9 79 [.slice A1 a0.Arena.Slots.length cp2, .slice A5 a0.Kids.length cp6], .blk b11 81 [.int .i64 a1.Slot, .int .i64 a1.Gen], .row (.slice (some ⟨b13, 0, none⟩) ([a1]).length 1) 81 k_Handle.sz ([a1]).length [.int .i64 a1.Slot, .int .i64 a1.Gen], .row (.slice A_row57_2 l_row57_2.length c_row57_2) 81 k_Handle.sz l_row57_2.length cs_row57_2, .blk b49 81 [.int .i64 el42.Slot, .int .i64 el42.Gen]] [RE.rd k_Slot A1 cp2 a0.Arena.Slots, RE.rd (Kd.slice k_Handle) A5 cp6 a0.Kids, RE.chunks k_Handle [.int .i64 a1.Slot, .int .i64 a1.Gen] ([a1]), RE.chunks k_Handle cs_row57_2 l_row57_2, RE.cells g28 (o29 + (y22_1).toNat * 1) [.slice A35 el23.length cp36], RE.rd k_Handle A35 cp36 el23]) => ?_))
        refine RL_nil ?_
        refine W_seq ?_
        refine W_region ?_
        refine RL_pure (by exact wn0 rfl) (by rfl) (by rfl) (x_loadA (j := 0) (vs := [.int .i64 el42.Slot, .int .i64 el42.Gen]) ag81 (by rfl) (H.cells (i := 4) (by rfl)) (by rfl) (by rfl)) ?_
        refine RL_pure (by exact wn0 rfl) (by rfl) (by rfl) (x_loadA (j := 0) (vs := [.int .i64 a1.Slot, .int .i64 a1.Gen]) ag81 (by rfl) (H.cells (i := 1) (by rfl)) (by rfl) (by rfl)) ?_
        refine RL_pure (by exact wn0 rfl) (by rfl) (by rfl) (x_eqls ep81 eg81 (by rfl) (by rfl) (b := ((el42.Slot == a1.Slot) && (el42.Gen == a1.Gen))) (by rfl)) ?_
        refine RL_nil ?_
        refine W_cond (by rfl) (fun hb => ?_) (fun hb => ?_)
        ·have hm := cond_t hb hm
         refine W_region ?_
         refine RL_pure (by exact wn0 rfl) (by rfl) (by rfl) (x_move (v := .slice A_row57_2 l_row57_2.length c_row57_2) (by rfl)) ?_
         refine RL_pure (by exact wn0 rfl) (by rfl) (by rfl) (x_move (v := .int .i64 y22_1) (by rfl)) ?_
         refine RL_pure (by exact wn0 rfl) (by rfl) (by rfl) (x_fieldAddr fo79_0 (by rfl)) ?_
         refine RL_pure (by exact wn0 rfl) (by rfl) (by rfl) (x_fieldAddr fo76_0 (by rfl)) ?_
         refine RL_pure (by exact wn0 rfl) (by rfl) (by rfl) (x_load (j := 0) (v := .slice A1 a0.Arena.Slots.length cp2) sc74 (by rfl) (H.cells (i := 0) (by rfl)) (by rfl)) ?_
         refine RL_pure (by exact wn0 rfl) (by rfl) (by rfl) (x_move (v := .int .i64 y22_1) (by rfl)) ?_
         obtain ⟨el52, h53, h54, he55, hm⟩ := idx_some hm
         obtain ⟨g57, o58, hA56⟩ := (H.rd (i := 0) (by rfl)).addr he55
         refine RL_pure (by exact wn0 rfl) (by rfl) (by rfl) (x_indexAddr sl74 sz96 (by rfl) (by rfl) hA56 h53 h54) ?_
         refine RL_pure (by exact wn0 rfl) (by rfl) (by rfl) (x_fieldAddr fo96_0 (by rfl)) ?_
         refine RL_pure (by exact wn0 rfl) (by rfl) (by rfl) (x_load (j := 0) (v := .int .i64 el52.Gen) sc3 (by rfl) (Rd.flatAt (n := 2) (H.rd (i := 0) (by rfl)) hA56 he55) (by rfl)) ?_
         refine RL_pure (by exact wn0 rfl) (by rfl) (by rfl) (x_build (vs := [(0, .int .i64 y22_1), (1, .int .i64 el52.Gen)]) (cs := [.int .i64 y22_1, .int .i64 el52.Gen]) (by rfl) (by kernel_rfl)) ?_
         refine RL_cons (O_buildSlice (vs := [(0, .agg #[.int .i64 y22_1, .int .i64 el52.Gen])]) (cs := [.int .i64 y22_1, .int .i64 el52.Gen]) (by exact wn0 rfl) (by rfl) sl87 sz81 ze81 (by rfl) (by rfl) (by rfl) (by kernel_rfl) H (fun w60 b59 (H : Sep ok w w60 [.blk b9 79 [.slice A1 a0.Arena.Slots.length cp2, .slice A5 a0.Kids.length cp6], .blk b11 81 [.int .i64 a1.Slot, .int .i64 a1.Gen], .row (.slice (some ⟨b13, 0, none⟩) ([a1]).length 1) 81 k_Handle.sz ([a1]).length [.int .i64 a1.Slot, .int .i64 a1.Gen], .row (.slice A_row57_2 l_row57_2.length c_row57_2) 81 k_Handle.sz l_row57_2.length cs_row57_2, .blk b49 81 [.int .i64 el42.Slot, .int .i64 el42.Gen], .blk b59 81 [.int .i64 y22_1, .int .i64 el52.Gen]] [RE.rd k_Slot A1 cp2 a0.Arena.Slots, RE.rd (Kd.slice k_Handle) A5 cp6 a0.Kids, RE.chunks k_Handle [.int .i64 a1.Slot, .int .i64 a1.Gen] ([a1]), RE.chunks k_Handle cs_row57_2 l_row57_2, RE.cells g28 (o29 + (y22_1).toNat * 1) [.slice A35 el23.length cp36], RE.rd k_Handle A35 cp36 el23]) => ?_))
         obtain ⟨l65, hl66, hb67, hm⟩ := apd_some hm
         refine RL_cons (O_append (D := k_Handle) (i := 3) (j := 3) (o := 0) (y := (⟨y22_1, el52.Gen⟩ : S_Handle)) (by exact wn0 rfl) (by rfl) (by rfl) (by rfl) H (by rfl) (by rfl) (H.cells (i := 5) (by rfl)) rfl hl66 sl87 sz81 by81 ze81 (by rfl) (by rfl) hb67 (by rfl) (fun w61 A62 cp63 cs64 (H : Sep ok w w61 [.blk b9 79 [.slice A1 a0.Arena.Slots.length cp2, .slice A5 a0.Kids.length cp6], .blk b11 81 [.int .i64 a1.Slot, .int .i64 a1.Gen], .row (.slice (some ⟨b13, 0, none⟩) ([a1]).length 1) 81 k_Handle.sz ([a1]).length [.int .i64 a1.Slot, .int .i64 a1.Gen], .row (.slice A62 l65.length cp63) 81 k_Handle.sz l65.length cs64, .blk b49 81 [.int .i64 el42.Slot, .int .i64 el42.Gen], .blk b59 81 [.int .i64 y22_1, .int .i64 el52.Gen]] [RE.rd k_Slot A1 cp2 a0.Arena.Slots, RE.rd (Kd.slice k_Handle) A5 cp6 a0.Kids, RE.chunks k_Handle [.int .i64 a1.Slot, .int .i64 a1.Gen] ([a1]), RE.chunks k_Handle cs64 l65, RE.cells g28 (o29 + (y22_1).toNat * 1) [.slice A35 el23.length cp36], RE.rd k_Handle A35 cp36 el23]) => ?_))
         refine RL_pure (by exact wn0 rfl) (by rfl) (by rfl) (x_assign (v := .slice A62 l65.length cp63) (by rfl)) ?_
         refine RL_nil ?_
         refine W_region ?_
         obtain ⟨x68, ex68, qx68, ux68, hm⟩ := ck_some hm
         refine RL_pure (by exact wn0 rfl) (by rfl) (by rfl) (x_add (by rfl) (by rfl) ux68) ?_
         refine RL_pure (by exact wn0 rfl) (by rfl) (by rfl) (x_move (v := .int .i64 x68) (by rfl)) ?_
         refine RL_nil ?_
         subst hrec2
         exact ⟨k2, Nat.lt_succ_self k2, l65, x68, A62, cp63, cs64, hm, ⟨rfl, rfl, rfl, rfl, rfl, rfl, rfl, rfl, rfl, rfl, trivial⟩, (H).takeL 4⟩
        ·have hm := cond_f hb hm
         refine W_skip ?_
         refine W_region ?_
         obtain ⟨x69, ex69, qx69, ux69, hm⟩ := ck_some hm
         refine RL_pure (by exact wn0 rfl) (by rfl) (by rfl) (x_add (by rfl) (by rfl) ux69) ?_
         refine RL_pure (by exact wn0 rfl) (by rfl) (by rfl) (x_move (v := .int .i64 x69) (by rfl)) ?_
         refine RL_nil ?_
         subst hrec2
         exact ⟨k2, Nat.lt_succ_self k2, l_row57_2, x69, A_row57_2, c_row57_2, cs_row57_2, hm, ⟨rfl, rfl, rfl, rfl, rfl, rfl, rfl, rfl, rfl, rfl, trivial⟩, (H).takeL 4⟩
       ·have hm := cond_f hb hm
        refine W_exit ?_
        refine W_region ?_
        obtain ⟨x70, ex70, qx70, ux70, hm⟩ := ck_some hm
        refine RL_pure (by exact wn0 rfl) (by rfl) (by rfl) (x_add (by rfl) (by rfl) ux70) ?_
        refine RL_pure (by exact wn0 rfl) (by rfl) (by rfl) (x_move (v := .int .i64 x70) (by rfl)) ?_
        refine RL_nil ?_
        subst hrec1
        exact ⟨k1, Nat.lt_succ_self k1, l_row57_2, x70, A_row57_2, c_row57_2, cs_row57_2, hm, ⟨rfl, rfl, rfl, rfl, rfl, rfl, trivial⟩, (H).pick [0, 1, 2, 3]⟩
    ·have hm := cond_f hb hm
     refine W_exit ?_
     refine W_seq ?_
     refine W_region ?_
     refine RL_pure (by exact wn0 rfl) (by rfl) (by rfl) (x_move (v := .slice A_row57_1 l_row57_1.length c_row57_1) (by rfl)) ?_
     refine RL_pure (by exact wn0 rfl) (by rfl) (by rfl) (x_assign (v := .slice A_row57_1 l_row57_1.length c_row57_1) (by rfl)) ?_
     refine RL_pure (by exact wn0 rfl) (by rfl) (by rfl) (x_assign (v := .int .i64 0) (by rfl)) ?_
     refine RL_nil ?_
     refine W_ret ?_
     have H : Sep ok w w22 [.blk b9 79 [.slice A1 a0.Arena.Slots.length cp2, .slice A5 a0.Kids.length cp6], .blk b11 81 [.int .i64 a1.Slot, .int .i64 a1.Gen], .row (.slice (some ⟨b13, 0, none⟩) ([a1]).length 1) 81 k_Handle.sz ([a1]).length [.int .i64 a1.Slot, .int .i64 a1.Gen], .hole] [RE.rd k_Slot A1 cp2 a0.Arena.Slots, RE.rd (Kd.slice k_Handle) A5 cp6 a0.Kids, RE.chunks k_Handle [.int .i64 a1.Slot, .int .i64 a1.Gen] ([a1]), RE.rd k_Handle A_row57_1 c_row57_1 l_row57_1] := H.frozen (i := 3) (j := 3) (by rfl) (by rfl)
     obtain rfl := Option.some.inj hm
     exact ⟨[.slice A_row57_1 l_row57_1.length c_row57_1, .int .i64 0], (.tmp (by rfl) (.tmp (by rfl) rfl)), A_row57_1, c_row57_1, rfl, (H.forgetAll).pick [3]⟩
end Go.Proofs.YtobkigllalbkiaaV.M

/- A plain Lean function that answers as the Go function does (none: not told), and the proof that a call answers so. Written by program. -/
set_option linter.unusedVariables false
namespace Go.Proofs.YtobkigllalbkiaaV.M
open Go.RowKit Go.Proofs.YtobkigllalbkiaaV
/-- diorama/dioramalaw06.alive -/
def m42 (K : Nat)  : Option (Bool) :=
 ((m37 K ).bind fun v2 => ((m39 K v2.1 v2.2.1.a0).bind fun v17 => ((m87 K v2.1 v2.2.1.a1).bind fun v23 => ((m46 K v2.1 v2.2.1.a0 v2.2.1.a2).bind fun v29 => ((m46 K v2.1 v2.2.1.a2 v2.2.1.a0).bind fun v32 => ((bif v2.2.2 then some (v17.2 == 0) else some false).bind fun b35 => ((bif b35 then some (v23.2 == 0) else some false).bind fun b38 => ((bif b38 then some (v29.2 == 0) else some false).bind fun b41 => ((bif b41 then some (v32.2 == 0) else some false).bind fun b44 => ((bif b44 then some ((v17.1.length : Int) == 2) else some false).bind fun b47 => ((bif b47 then (idx v17.1 0 fun el51 => some ((el51.Slot == v2.2.1.a1.Slot) && (el51.Gen == v2.2.1.a1.Gen))) else some false).bind fun b50 => ((bif b50 then some ((v23.1.length : Int) == 2) else some false).bind fun b60 => ((bif b60 then (idx v23.1 1 fun el64 => some ((el64.Slot == v2.2.1.a0.Slot) && (el64.Gen == v2.2.1.a0.Gen))) else some false).bind fun b63 => ((bif b63 then some v29.1 else some false).bind fun b73 => ((bif b73 then some (!v32.1) else some false).bind fun b76 => some b76)))))))))))))))
set_option maxRecDepth 100000 in
set_option maxHeartbeats 4000000 in
theorem c42 (ok : Okp) (K : Nat) (w : World)  (res : Bool) (hm : m42 K  = some res) :
  Calls Try.prog 42 #[] w (fun e w' => e = .returned (tup [.bool res]) ∧ Sep ok w w' [] []) := by
 refine calls_W (args := []) Try.func42 rfl Try.ntmps42 Try.results42 rfl fun r hr => ?_
 obtain ⟨r1, rfl⟩ : ∃ R, R = r := ⟨_, rfl⟩
 have H : Sep ok w w [] [] := Sep.start ok w
 unfold m42 at hm
 refine W_seq ?_
 refine W_region ?_
 refine RL_pure (by exact wn0 rfl) (by rfl) (by rfl) (x_assign (v := .bool false) (by rfl)) ?_
 refine RL_nil ?_
 refine W_seq ?_
 refine W_region ?_
 obtain ⟨v2, hv1, hm⟩ := bind_some hm
 refine RL_cons (O_call (by exact wn0 rfl) (by rfl) (by rfl) (x_callL (by rfl) (args := []) (by rfl) (cf37 _ _)) (c37 (okS ok w []) K w   v2 hv1) ?_)
 rintro e w3 ⟨A4, cp5, A7, cp8, rfl, H2⟩
 have H : Sep ok w w3 [] [RE.rd k_Slot A4 cp5 v2.1.Arena.Slots, RE.rd (Kd.slice k_Handle) A7 cp8 v2.1.Kids] := H.call H2
 clear H2
 refine ⟨_, rfl, ?_⟩
 show RL _ _ _ _ _ _ _
 refine RL_pure (by exact wn0 rfl) (by rfl) (by rfl) (x_move (v := tup [.agg #[.slice A4 v2.1.Arena.Slots.length cp5, .slice A7 v2.1.Kids.length cp8], .agg #[.int .i64 v2.2.1.a0.Slot, .int .i64 v2.2.1.a0.Gen, .int .i64 v2.2.1.a1.Slot, .int .i64 v2.2.1.a1.Gen, .int .i64 v2.2.1.a2.Slot, .int .i64 v2.2.1.a2.Gen], .bool v2.2.2]) (by rfl)) ?_
 refine RL_pure (by exact wn0 rfl) (by rfl) (by rfl) (x_extract (v := .agg #[.slice A4 v2.1.Arena.Slots.length cp5, .slice A7 v2.1.Kids.length cp8]) (by rfl) (by rfl)) ?_
 refine RL_pure (by exact wn0 rfl) (by rfl) (by rfl) (x_extract (v := .agg #[.int .i64 v2.2.1.a0.Slot, .int .i64 v2.2.1.a0.Gen, .int .i64 v2.2.1.a1.Slot, .int .i64 v2.2.1.a1.Gen, .int .i64 v2.2.1.a2.Slot, .int .i64 v2.2.1.a2.Gen]) (by rfl) (by rfl)) ?_
 refine RL_pure (by exact wn0 rfl) (by rfl) (by rfl) (x_extract (v := .bool v2.2.2) (by rfl) (by rfl)) ?_
 refine RL_cons (O_alloc (by exact wn0 rfl) (by rfl) ze79 (by rfl) H (fun w11 b10 (H : Sep ok w w11 [.blk b10 79 [.slice none 0 0, .slice none 0 0]] [RE.rd k_Slot A4 cp5 v2.1.Arena.Slots, RE.rd (Kd.slice k_Handle) A7 cp8 v2.1.Kids]) => ?_))
 refine RL_cons (O_alloc (by exact wn0 rfl) (by rfl) ze82 (by rfl) H (fun w13 b12 (H : Sep ok w w13 [.blk b10 79 [.slice none 0 0, .slice none 0 0], .blk b12 82 [.int .i64 0, .int .i64 0, .int .i64 0, .int .i64 0, .int .i64 0, .int .i64 0]] [RE.rd k_Slot A4 cp5 v2.1.Arena.Slots, RE.rd (Kd.slice k_Handle) A7 cp8 v2.1.Kids]) => ?_))
 refine RL_cons (O_store (i := 0) (off := 0) (by exact wn0 rfl) (by rfl) (by rfl) H (by rfl) (vs := [.slice A4 v2.1.Arena.Slots.length cp5, .slice A7 v2.1.Kids.length cp8]) (by rfl) sz79 (by rfl) (by rfl) (by rfl) (fun w14 (H : Sep ok w w14 [.blk b10 79 [.slice A4 v2.1.Arena.Slots.length cp5, .slice A7 v2.1.Kids.length cp8], .blk b12 82 [.int .i64 0, .int .i64 0, .int .i64 0, .int .i64 0, .int .i64 0, .int .i64 0]] [RE.rd k_Slot A4 cp5 v2.1.Arena.Slots, RE.rd (Kd.slice k_Handle) A7 cp8 v2.1.Kids]) => ?_))
 refine RL_cons (O_store (i := 1) (off := 0) (by exact wn0 rfl) (by rfl) (by rfl) H (by rfl) (vs := [.int .i64 v2.2.1.a0.Slot, .int .i64 v2.2.1.a0.Gen, .int .i64 v2.2.1.a1.Slot, .int .i64 v2.2.1.a1.Gen, .int .i64 v2.2.1.a2.Slot, .int .i64 v2.2.1.a2.Gen]) (by rfl) sz82 (by rfl) (by rfl) (by rfl) (fun w15 (H : Sep ok w w15 [.blk b10 79 [.slice A4 v2.1.Arena.Slots.length cp5, .slice A7 v2.1.Kids.length cp8], .blk b12 82 [.int .i64 v2.2.1.a0.Slot, .int .i64 v2.2.1.a0.Gen, .int .i64 v2.2.1.a1.Slot, .int .i64 v2.2.1.a1.Gen, .int .i64 v2.2.1.a2.Slot, .int .i64 v2.2.1.a2.Gen]] [RE.rd k_Slot A4 cp5 v2.1.Arena.Slots, RE.rd (Kd.slice k_Handle) A7 cp8 v2.1.Kids]) => ?_))
 refine RL_pure (by exact wn0 rfl) (by rfl) (by rfl) (x_assign (v := .bool v2.2.2) (by rfl)) ?_
 refine RL_nil ?_
 refine W_seq ?_
 refine W_region ?_
 refine RL_pure (by exact wn0 rfl) (by rfl) (by rfl) (x_loadA (j := 0) (vs := [.slice A4 v2.1.Arena.Slots.length cp5, .slice A7 v2.1.Kids.length cp8]) ag79 (by rfl) (H.cells (i := 0) (by rfl)) (by rfl) (by rfl)) ?_
 refine RL_pure (by exact wn0 rfl) (by rfl) (by rfl) (x_indexArr ar82 sz81 (by rfl) (by rfl) (by decide) (by decide)) ?_
 refine RL_pure (by exact wn0 rfl) (by rfl) (by rfl) (x_loadA (j := 0) (vs := [.int .i64 v2.2.1.a0.Slot, .int .i64 v2.2.1.a0.Gen]) ag81 (by rfl) (H.cells (i := 1) (by rfl)) (by rfl) (by rfl)) ?_
 obtain ⟨v17, hv16, hm⟩ := bind_some hm
 refine RL_cons (O_call (by exact wn0 rfl) (by rfl) (by rfl) (x_callL (by rfl) (args := [.agg #[.slice A4 v2.1.Arena.Slots.length cp5, .slice A7 v2.1.Kids.length cp8], .agg #[.int .i64 v2.2.1.a0.Slot, .int .i64 v2.2.1.a0.Gen]]) (by rfl) (cf39 _ _)) (c39 (okS ok w [.blk b10 79 [.slice A4 v2.1.Arena.Slots.length cp5, .slice A7 v2.1.Kids.length cp8], .blk b12 82 [.int .i64 v2.2.1.a0.Slot, .int .i64 v2.2.1.a0.Gen, .int .i64 v2.2.1.a1.Slot, .int .i64 v2.2.1.a1.Gen, .int .i64 v2.2.1.a2.Slot, .int .i64 v2.2.1.a2.Gen]]) K w15 v2.1 A4 cp5 A7 cp8 v2.2.1.a0 (H.rd (i := 0) (by rfl)) (H.rd (i := 1) (by rfl)) v17 hv16) ?_)
 rintro e w18 ⟨A19, cp20, rfl, H2⟩
 have H : Sep ok w w18 [.blk b10 79 [.slice A4 v2.1.Arena.Slots.length cp5, .slice A7 v2.1.Kids.length cp8], .blk b12 82 [.int .i64 v2.2.1.a0.Slot, .int .i64 v2.2.1.a0.Gen, .int .i64 v2.2.1.a1.Slot, .int .i64 v2.2.1.a1.Gen, .int .i64 v2.2.1.a2.Slot, .int .i64 v2.2.1.a2.Gen]] [RE.rd k_Slot A4 cp5 v2.1.Arena.Slots, RE.rd (Kd.slice k_Handle) A7 cp8 v2.1.Kids, RE.rd k_Handle A19 cp20 v17.1] := H.call H2
 clear H2
 refine ⟨_, rfl, ?_⟩
 show RL _ _ _ _ _ _ _
 refine RL_pure (by exact wn0 rfl) (by rfl) (by rfl) (x_move (v := tup [.slice A19 v17.1.length cp20, .int .i64 v17.2]) (by rfl)) ?_
 refine RL_pure (by exact wn0 rfl) (by rfl) (by rfl) (x_extract (v := .slice A19 v17.1.length cp20) (by rfl) (by rfl)) ?_
 refine RL_pure (by exact wn0 rfl) (by rfl) (by rfl) (x_extract (v := .int .i64 v17.2) (by rfl) (by rfl)) ?_
 refine RL_pure (by exact wn0 rfl) (by rfl) (by rfl) (x_assign (v := .slice A19 v17.1.length cp20) (by rfl)) ?_
 refine RL_pure (by exact wn0 rfl) (by rfl) (by rfl) (x_assign (v := .int .i64 v17.2) (by rfl)) ?_
 refine RL_nil ?_
 refine W_seq ?_
 refine W_region ?_
 refine RL_pure (by exact wn0 rfl) (by rfl) (by rfl) (x_loadA (j := 0) (vs := [.slice A4 v2.1.Arena.Slots.length cp5, .slice A7 v2.1.Kids.length cp8]) ag79 (by rfl) (H.cells (i := 0) (by rfl)) (by rfl) (by rfl)) ?_
 refine RL_pure (by exact wn0 rfl) (by rfl) (by rfl) (x_indexArr ar82 sz81 (by rfl) (by rfl) (by decide) (by decide)) ?_
 refine RL_pure (by exact wn0 rfl) (by rfl) (by rfl) (x_loadA (j := 2) (vs := [.int .i64 v2.2.1.a1.Slot, .int .i64 v2.2.1.a1.Gen]) ag81 (by rfl) (H.cells (i := 1) (by rfl)) (by rfl) (by rfl)) ?_
 obtain ⟨v23, hv22, hm⟩ := bind_some hm
 refine RL_cons (O_call (by exact wn0 rfl) (by rfl) (by rfl) (x_callL (by rfl) (args := [.agg #[.slice A4 v2.1.Arena.Slots.length cp5, .slice A7 v2.1.Kids.length cp8], .agg #[.int .i64 v2.2.1.a1.Slot, .int .i64 v2.2.1.a1.Gen]]) (by rfl) (cf87 _ _)) (c87 (okS ok w [.blk b10 79 [.slice A4 v2.1.Arena.Slots.length cp5, .slice A7 v2.1.Kids.length cp8], .blk b12 82 [.int .i64 v2.2.1.a0.Slot, .int .i64 v2.2.1.a0.Gen, .int .i64 v2.2.1.a1.Slot, .int .i64 v2.2.1.a1.Gen, .int .i64 v2.2.1.a2.Slot, .int .i64 v2.2.1.a2.Gen]]) K w18 v2.1 A4 cp5 A7 cp8 v2.2.1.a1 (H.rd (i := 0) (by rfl)) (H.rd (i := 1) (by rfl)) v23 hv22) ?_)
 rintro e w24 ⟨A25, cp26, rfl, H2⟩
 have H : Sep ok w w24 [.blk b10 79 [.slice A4 v2.1.Arena.Slots.length cp5, .slice A7 v2.1.Kids.length cp8], .blk b12 82 [.int .i64 v2.2.1.a0.Slot, .int .i64 v2.2.1.a0.Gen, .int .i64 v2.2.1.a1.Slot, .int .i64 v2.2.1.a1.Gen, .int .i64 v2.2.1.a2.Slot, .int .i64 v2.2.1.a2.Gen]] [RE.rd k_Slot A4 cp5 v2.1.Arena.Slots, RE.rd (Kd.slice k_Handle) A7 cp8 v2.1.Kids, RE.rd k_Handle A19 cp20 v17.1, RE.rd k_Handle A25 cp26 v23.1] := H.call H2
 clear H2
 refine ⟨_, rfl, ?_⟩
 show RL _ _ _ _ _ _ _
 refine RL_pure (by exact wn0 rfl) (by rfl) (by rfl) (x_move (v := tup [.slice A25 v23.1.length cp26, .int .i64 v23.2]) (by rfl)) ?_
 refine RL_pure (by exact wn0 rfl) (by rfl) (by rfl) (x_extract (v := .slice A25 v23.1.length cp26) (by rfl) (by rfl)) ?_
 refine RL_pure (by exact wn0 rfl) (by rfl) (by rfl) (x_extract (v := .int .i64 v23.2) (by rfl) (by rfl)) ?_
 refine RL_pure (by exact wn0 rfl) (by rfl) (by rfl) (x_assign (v := .slice A25 v23.1.length cp26) (by rfl)) ?_
 refine RL_pure (by exact wn0 rfl) (by rfl) (by rfl) (x_assign (v := .int .i64 v23.2) (by rfl)) ?_
 refine RL_nil ?_
 refine W_seq ?_
 refine W_region ?_
 refine RL_pure (by exact wn0 rfl) (by rfl) (by rfl) (x_loadA (j := 0) (vs := [.slice A4 v2.1.Arena.Slots.length cp5, .slice A7 v2.1.Kids.length cp8]) ag79 (by rfl) (H.cells (i := 0) (by rfl)) (by rfl) (by rfl)) ?_
 refine RL_pure (by exact wn0 rfl) (by rfl) (by rfl) (x_indexArr ar82 sz81 (by rfl) (by rfl) (by decide) (by decide)) ?_
 refine RL_pure (by exact wn0 rfl) (by rfl) (by rfl) (x_loadA (j := 0) (vs := [.int .i64 v2.2.1.a0.Slot, .int .i64 v2.2.1.a0.Gen]) ag81 (by rfl) (H.cells (i := 1) (by rfl)) (by rfl) (by rfl)) ?_
 refine RL_pure (by exact wn0 rfl) (by rfl) (by rfl) (x_indexArr ar82 sz81 (by rfl) (by rfl) (by decide) (by decide)) ?_
 refine RL_pure (by exact wn0 rfl) (by rfl) (by rfl) (x_loadA (j := 4) (vs := [.int .i64 v2.2.1.a2.Slot, .int .i64 v2.2.1.a2.Gen]) ag81 (by rfl) (H.cells (i := 1) (by rfl)) (by rfl) (by rfl)) ?_
 obtain ⟨v29, hv28, hm⟩ := bind_some hm
 refine RL_cons (O_call (by exact wn0 rfl) (by rfl) (by rfl) (x_callL (by rfl) (args := [.agg #[.slice A4 v2.1.Arena.Slots.length cp5, .slice A7 v2.1.Kids.length cp8], .agg #[.int .i64 v2.2.1.a0.Slot, .int .i64 v2.2.1.a0.Gen], .agg #[.int .i64 v2.2.1.a2.Slot, .int .i64 v2.2.1.a2.Gen]]) (by rfl) (cf46 _ _)) (c46 okT K w24 v2.1 A4 cp5 A7 cp8 v2.2.1.a0 v2.2.1.a2 (H.rd (i := 0) (by rfl)).any (H.rd (i := 1) (by rfl)).any v29 hv28) ?_)
 rintro e w30 ⟨rfl, H2⟩
 have H : Sep ok w w30 [.blk b10 79 [.slice A4 v2.1.Arena.Slots.length cp5, .slice A7 v2.1.Kids.length cp8], .blk b12 82 [.int .i64 v2.2.1.a0.Slot, .int .i64 v2.2.1.a0.Gen, .int .i64 v2.2.1.a1.Slot, .int .i64 v2.2.1.a1.Gen, .int .i64 v2.2.1.a2.Slot, .int .i64 v2.2.1.a2.Gen]] [RE.rd k_Slot A4 cp5 v2.1.Arena.Slots, RE.rd (Kd.slice k_Handle) A7 cp8 v2.1.Kids, RE.rd k_Handle A19 cp20 v17.1, RE.rd k_Handle A25 cp26 v23.1] := H.below H2.base
 clear H2
 refine ⟨_, rfl, ?_⟩
 show RL _ _ _ _ _ _ _
 refine RL_pure (by exact wn0 rfl) (by rfl) (by rfl) (x_move (v := tup [.bool v29.1, .int .i64 v29.2]) (by rfl)) ?_
 refine RL_pure (by exact wn0 rfl) (by rfl) (by rfl) (x_extract (v := .bool v29.1) (by rfl) (by rfl)) ?_
 refine RL_pure (by exact wn0 rfl) (by rfl) (by rfl) (x_extract (v := .int .i64 v29.2) (by rfl) (by rfl)) ?_
 refine RL_pure (by exact wn0 rfl) (by rfl) (by rfl) (x_assign (v := .bool v29.1) (by rfl)) ?_
 refine RL_pure (by exact wn0 rfl) (by rfl) (by rfl) (x_assign (v := .int .i64 v29.2) (by rfl)) ?_
 refine RL_nil ?_
 refine W_seq ?_
 refine W_region ?_
 refine RL_pure (by exact wn0 rfl) (by rfl) (by rfl) (x_loadA (j := 0) (vs := [.slice A4 v2.1.Arena.Slots.length cp5, .slice A7 v2.1.Kids.length cp8]) ag79 (by rfl) (H.cells (i := 0) (by rfl)) (by rfl) (by rfl)) ?_
 refine RL_pure (by exact wn0 rfl) (by rfl) (by rfl) (x_indexArr ar82 sz81 (by rfl) (by rfl) (by decide) (by decide)) ?_
 refine RL_pure (by exact wn0 rfl) (by rfl) (by rfl) (x_loadA (j := 4) (vs := [.int .i64 v2.2.1.a2.Slot, .int .i64 v2.2.1.a2.Gen]) ag81 (by rfl) (H.cells (i := 1) (by rfl)) (by rfl) (by rfl)) ?_
 refine RL_pure (by exact wn0 rfl) (by rfl) (by rfl) (x_indexArr ar82 sz81 (by rfl) (by rfl) (by decide) (by decide)) ?_
 refine RL_pure (by exact wn0 rfl) (by rfl) (by rfl) (x_loadA (j := 0) (vs := [.int .i64 v2.2.1.a0.Slot, .int .i64 v2.2.1.a0.Gen]) ag81 (by rfl) (H.cells (i := 1) (by rfl)) (by rfl) (by rfl)) ?_
 obtain ⟨v32, hv31, hm⟩ := bind_some hm
 refine RL_cons (O_call (by exact wn0 rfl) (by rfl) (by rfl) (x_callL (by rfl) (args := [.agg #[.slice A4 v2.1.Arena.Slots.length cp5, .slice A7 v2.1.Kids.length cp8], .agg #[.int .i64 v2.2.1.a2.Slot, .int .i64 v2.2.1.a2.Gen], .agg #[.int .i64 v2.2.1.a0.Slot, .int .i64 v2.2.1.a0.Gen]]) (by rfl) (cf46 _ _)) (c46 okT K w30 v2.1 A4 cp5 A7 cp8 v2.2.1.a2 v2.2.1.a0 (H.rd (i := 0) (by rfl)).any (H.rd (i := 1) (by rfl)).any v32 hv31) ?_)
 rintro e w33 ⟨rfl, H2⟩
 have H : Sep ok w w33 [.blk b10 79 [.slice A4 v2.1.Arena.Slots.length cp5, .slice A7 v2.1.Kids.length cp8], .blk b12 82 [.int .i64 v2.2.1.a0.Slot, .int .i64 v2.2.1.a0.Gen, .int .i64 v2.2.1.a1.Slot, .int .i64 v2.2.1.a1.Gen, .int .i64 v2.2.1.a2.Slot, .int .i64 v2.2.1.a2.Gen]] [RE.rd k_Slot A4 cp5 v2.1.Arena.Slots, RE.rd (Kd.slice k_Handle) A7 cp8 v2.1.Kids, RE.rd k_Handle A19 cp20 v17.1, RE.rd k_Handle A25 cp26 v23.1] := H.below H2.base
 clear H2
 refine ⟨_, rfl, ?_⟩
 show RL _ _ _ _ _ _ _
 refine RL_pure (by exact wn0 rfl) (by rfl) (by rfl) (x_move (v := tup [.bool v32.1, .int .i64 v32.2]) (by rfl)) ?_
 refine RL_pure (by exact wn0 rfl) (by rfl) (by rfl) (x_extract (v := .bool v32.1) (by rfl) (by rfl)) ?_
 refine RL_pure (by exact wn0 rfl) (by rfl) (by rfl) (x_extract (v := .int .i64 v32.2) (by rfl) (by rfl)) ?_
 refine RL_pure (by exact wn0 rfl) (by rfl) (by rfl) (x_assign (v := .bool v32.1) (by rfl)) ?_
 refine RL_pure (by exact wn0 rfl) (by rfl) (by rfl) (x_assign (v := .int .i64 v32.2) (by rfl)) ?_
 refine RL_nil ?_
 refine W_seq ?_
 refine W_draw [.free 0, .free 1, .free 2, .free 3, .free 4, .free 5, .free 6, .free 7, .free 8, .free 9, .free 10, .free 11, .free 12, .free 13, .free 14, .free 15, .free 16, .free 17, .free 18, .free 19, .free 20, .free 21, .free 22, .free 23, .free 24, .take 25, .free 26, .take 27, .free 28, .free 29, .free 30, .free 31, .free 32, .free 33, .free 34, .free 35, .free 36, .free 37, .take 38, .free 39, .take 40, .free 41, .free 42, .free 43, .free 44, .free 45, .free 46, .free 47, .free 48, .free 49, .free 50] (fun wS => Sep ok w wS [.blk b10 79 [.slice A4 v2.1.Arena.Slots.length cp5, .slice A7 v2.1.Kids.length cp8], .blk b12 82 [.int .i64 v2.2.1.a0.Slot, .int .i64 v2.2.1.a0.Gen, .int .i64 v2.2.1.a1.Slot, .int .i64 v2.2.1.a1.Gen, .int .i64 v2.2.1.a2.Slot, .int .i64 v2.2.1.a2.Gen]] [RE.rd k_Slot A4 cp5 v2.1.Arena.Slots, RE.rd (Kd.slice k_Handle) A7 cp8 v2.1.Kids, RE.rd k_Handle A19 cp20 v17.1, RE.rd k_Handle A25 cp26 v23.1]) [] [0, 1, 2, 3, 4, 5, 6, 7, 8, 9, 10, 11, 12, 13, 14, 15, 16, 17, 18, 19, 20, 21, 22, 23, 24, 26, 28, 29, 30, 31, 32, 33, 34, 35, 36, 37, 39, 41, 42, 43, 44, 45, 46, 47, 48, 49, 50] mixed0 (by kernel_rfl) (by kernel_rfl) (by kernel_rfl) (by rfl) (by exact H.drew) ?_
 obtain ⟨w34, hW⟩ : ∃ W : World, W = { w33 with drawn := w33.drawn + 1 } := ⟨_, rfl⟩
 rw [← hW]
 have H : Sep ok w w34 [.blk b10 79 [.slice A4 v2.1.Arena.Slots.length cp5, .slice A7 v2.1.Kids.length cp8], .blk b12 82 [.int .i64 v2.2.1.a0.Slot, .int .i64 v2.2.1.a0.Gen, .int .i64 v2.2.1.a1.Slot, .int .i64 v2.2.1.a1.Gen, .int .i64 v2.2.1.a2.Slot, .int .i64 v2.2.1.a2.Gen]] [RE.rd k_Slot A4 cp5 v2.1.Arena.Slots, RE.rd (Kd.slice k_Handle) A7 cp8 v2.1.Kids, RE.rd k_Handle A19 cp20 v17.1, RE.rd k_Handle A25 cp26 v23.1] := by rw [hW]; exact H.drew
 clear hW
 refine PR_free (by rfl) (by rfl) (by rfl) (by exact wn0 rfl) (fun wS => (x_move (v := .bool v2.2.2) (by rfl))) ?_
 refine PR_free (by rfl) (by rfl) (by rfl) (by exact wn0 rfl) (fun wS => (x_move (v := .bool v2.2.2) (by rfl))) ?_
 obtain ⟨b35, hmS, hm⟩ := bind_some hm
 refine PR_cut 3 (fun r' w' => Agr [(53, .bool b35), (2, .pointer (some ⟨b12, 0, none⟩)), (4, .slice A19 v17.1.length cp20), (6, .slice A25 v23.1.length cp26), (7, .int .i64 v23.2), (8, .bool v29.1), (9, .int .i64 v29.2), (10, .bool v32.1), (11, .int .i64 v32.2)] r' ∧ Sep ok w w' [.blk b10 79 [.slice A4 v2.1.Arena.Slots.length cp5, .slice A7 v2.1.Kids.length cp8], .blk b12 82 [.int .i64 v2.2.1.a0.Slot, .int .i64 v2.2.1.a0.Gen, .int .i64 v2.2.1.a1.Slot, .int .i64 v2.2.1.a1.Gen, .int .i64 v2.2.1.a2.Slot, .int .i64 v2.2.1.a2.Gen]] [RE.rd k_Slot A4 cp5 v2.1.Arena.Slots, RE.rd (Kd.slice k_Handle) A7 cp8 v2.1.Kids, RE.rd k_Handle A19 cp20 v17.1, RE.rd k_Handle A25 cp26 v23.1]) ?_ ?_
 ·cases hbS : v2.2.2
  ·have hm := cond_f hbS hmS
   refine PR_offF (by rfl) (by rfl) (by rfl) (by exact wn2 rfl rfl rfl rfl) ?_
   refine PR_offF (by rfl) (by rfl) (by rfl) (by exact wn2 rfl rfl rfl rfl) ?_
   refine PR_free (by rfl) (by rfl) (by rfl) (by exact wn0 rfl) (fun wS => (x_pick_f (v := .bool false) (by rfl) (by rfl))) ?_
   refine PR_nil ?_
   exact ⟨⟨congrArg Value.bool (Option.some.inj hm), rfl, rfl, rfl, rfl, rfl, rfl, rfl, rfl, trivial⟩, H⟩
  ·have hm := cond_t hbS hmS
   refine PR_free (by rfl) (by rfl) (by rfl) (by exact wn1 rfl rfl rfl rfl) (fun wS => (x_move (v := .int .i64 v17.2) (by rfl))) ?_
   refine PR_free (by rfl) (by rfl) (by rfl) (by exact wn1 rfl rfl rfl rfl) (fun wS => (x_eql (by rfl) (by rfl))) ?_
   refine PR_free (by rfl) (by rfl) (by rfl) (by exact wn0 rfl) (fun wS => (x_pick_t (v := .bool (v17.2 == 0)) (by rfl) (by rfl))) ?_
   refine PR_nil ?_
   exact ⟨⟨congrArg Value.bool (Option.some.inj hm), rfl, rfl, rfl, rfl, rfl, rfl, rfl, rfl, trivial⟩, H⟩
 ·rintro r' w' ⟨hA, H⟩
  obtain ⟨r36, rfl⟩ := regen _ hA; clear hA
  obtain ⟨w37, rfl⟩ : ∃ W : World, W = w' := ⟨_, rfl⟩
  show PR _ _ _ _ _ _ _ _
  refine PR_free (by rfl) (by rfl) (by rfl) (by exact wn0 rfl) (fun wS => (x_move (v := .bool b35) (by rfl))) ?_
  obtain ⟨b38, hmS, hm⟩ := bind_some hm
  refine PR_cut 3 (fun r' w' => Agr [(57, .bool b38), (2, .pointer (some ⟨b12, 0, none⟩)), (4, .slice A19 v17.1.length cp20), (6, .slice A25 v23.1.length cp26), (8, .bool v29.1), (9, .int .i64 v29.2), (10, .bool v32.1), (11, .int .i64 v32.2)] r' ∧ Sep ok w w' [.blk b10 79 [.slice A4 v2.1.Arena.Slots.length cp5, .slice A7 v2.1.Kids.length cp8], .blk b12 82 [.int .i64 v2.2.1.a0.Slot, .int .i64 v2.2.1.a0.Gen, .int .i64 v2.2.1.a1.Slot, .int .i64 v2.2.1.a1.Gen, .int .i64 v2.2.1.a2.Slot, .int .i64 v2.2.1.a2.Gen]] [RE.rd k_Slot A4 cp5 v2.1.Arena.Slots, RE.rd (Kd.slice k_Handle) A7 cp8 v2.1.Kids, RE.rd k_Handle A19 cp20 v17.1, RE.rd k_Handle A25 cp26 v23.1]) ?_ ?_
  ·cases hbS : b35
   ·have hm := cond_f hbS hmS
    refine PR_offF (by rfl) (by rfl) (by rfl) (by exact wn2 rfl rfl rfl rfl) ?_
    refine PR_offF (by rfl) (by rfl) (by rfl) (by exact wn2 rfl rfl rfl rfl) ?_
    refine PR_free (by rfl) (by rfl) (by rfl) (by exact wn0 rfl) (fun wS => (x_pick_f (v := .bool false) (by rfl) (by rfl))) ?_
    refine PR_nil ?_
    exact ⟨⟨congrArg Value.bool (Option.some.inj hm), rfl, rfl, rfl, rfl, rfl, rfl, rfl, trivial⟩, H⟩
   ·have hm := cond_t hbS hmS
    refine PR_free (by rfl) (by rfl) (by rfl) (by exact wn1 rfl rfl rfl rfl) (fun wS => (x_move (v := .int .i64 v23.2) (by rfl))) ?_
    refine PR_free (by rfl) (by rfl) (by rfl) (by exact wn1 rfl rfl rfl rfl) (fun wS => (x_eql (by rfl) (by rfl))) ?_
    refine PR_free (by rfl) (by rfl) (by rfl) (by exact wn0 rfl) (fun wS => (x_pick_t (v := .bool (v23.2 == 0)) (by rfl) (by rfl))) ?_
    refine PR_nil ?_
    exact ⟨⟨congrArg Value.bool (Option.some.inj hm), rfl, rfl, rfl, rfl, rfl, rfl, rfl, trivial⟩, H⟩
  ·rintro r' w' ⟨hA, H⟩
   obtain ⟨r39, rfl⟩ := regen _ hA; clear hA
   obtain ⟨w40, rfl⟩ : ∃ W : World, W = w' := ⟨_, rfl⟩
   show PR _ _ _ _ _ _ _ _
   refine PR_free (by rfl) (by rfl) (by rfl) (by exact wn0 rfl) (fun wS => (x_move (v := .bool b38) (by rfl))) ?_
   obtain ⟨b41, hmS, hm⟩ := bind_some hm
   refine PR_cut 3 (fun r' w' => Agr [(61, .bool b41), (2, .pointer (some ⟨b12, 0, none⟩)), (4, .slice A19 v17.1.length cp20), (6, .slice A25 v23.1.length cp26), (8, .bool v29.1), (10, .bool v32.1), (11, .int .i64 v32.2)] r' ∧ Sep ok w w' [.blk b10 79 [.slice A4 v2.1.Arena.Slots.length cp5, .slice A7 v2.1.Kids.length cp8], .blk b12 82 [.int .i64 v2.2.1.a0.Slot, .int .i64 v2.2.1.a0.Gen, .int .i64 v2.2.1.a1.Slot, .int .i64 v2.2.1.a1.Gen, .int .i64 v2.2.1.a2.Slot, .int .i64 v2.2.1.a2.Gen]] [RE.rd k_Slot A4 cp5 v2.1.Arena.Slots, RE.rd (Kd.slice k_Handle) A7 cp8 v2.1.Kids, RE.rd k_Handle A19 cp20 v17.1, RE.rd k_Handle A25 cp26 v23.1]) ?_ ?_
   ·cases hbS : b38
    ·have hm := cond_f hbS hmS
     refine PR_offF (by rfl) (by rfl) (by rfl) (by exact wn2 rfl rfl rfl rfl) ?_
     refine PR_offF (by rfl) (by rfl) (by rfl) (by exact wn2 rfl rfl rfl rfl) ?_
     refine PR_free (by rfl) (by rfl) (by rfl) (by exact wn0 rfl) (fun wS => (x_pick_f (v := .bool false) (by rfl) (by rfl))) ?_
     refine PR_nil ?_
     exact ⟨⟨congrArg Value.bool (Option.some.inj hm), rfl, rfl, rfl, rfl, rfl, rfl, trivial⟩, H⟩
    ·have hm := cond_t hbS hmS
     refine PR_free (by rfl) (by rfl) (by rfl) (by exact wn1 rfl rfl rfl rfl) (fun wS => (x_move (v := .int .i64 v29.2) (by rfl))) ?_
     refine PR_free (by rfl) (by rfl) (by rfl) (by exact wn1 rfl rfl rfl rfl) (fun wS => (x_eql (by rfl) (by rfl))) ?_
     refine PR_free (by rfl) (by rfl) (by rfl) (by exact wn0 rfl) (fun wS => (x_pick_t (v := .bool (v29.2 == 0)) (by rfl) (by rfl))) ?_
     refine PR_nil ?_
     exact ⟨⟨congrArg Value.bool (Option.some.inj hm), rfl, rfl, rfl, rfl, rfl, rfl, trivial⟩, H⟩
   ·rintro r' w' ⟨hA, H⟩
    obtain ⟨r42, rfl⟩ := regen _ hA; clear hA
    obtain ⟨w43, rfl⟩ : ∃ W : World, W = w' := ⟨_, rfl⟩
    show PR _ _ _ _ _ _ _ _
    refine PR_free (by rfl) (by rfl) (by rfl) (by exact wn0 rfl) (fun wS => (x_move (v := .bool b41) (by rfl))) ?_
    obtain ⟨b44, hmS, hm⟩ := bind_some hm
    refine PR_cut 3 (fun r' w' => Agr [(65, .bool b44), (2, .pointer (some ⟨b12, 0, none⟩)), (4, .slice A19 v17.1.length cp20), (6, .slice A25 v23.1.length cp26), (8, .bool v29.1), (10, .bool v32.1)] r' ∧ Sep ok w w' [.blk b10 79 [.slice A4 v2.1.Arena.Slots.length cp5, .slice A7 v2.1.Kids.length cp8], .blk b12 82 [.int .i64 v2.2.1.a0.Slot, .int .i64 v2.2.1.a0.Gen, .int .i64 v2.2.1.a1.Slot, .int .i64 v2.2.1.a1.Gen, .int .i64 v2.2.1.a2.Slot, .int .i64 v2.2.1.a2.Gen]] [RE.rd k_Slot A4 cp5 v2.1.Arena.Slots, RE.rd (Kd.slice k_Handle) A7 cp8 v2.1.Kids, RE.rd k_Handle A19 cp20 v17.1, RE.rd k_Handle A25 cp26 v23.1]) ?_ ?_
    ·cases hbS : b41
     ·have hm := cond_f hbS hmS
      refine PR_offF (by rfl) (by rfl) (by rfl) (by exact wn2 rfl rfl rfl rfl) ?_
      refine PR_offF (by rfl) (by rfl) (by rfl) (by exact wn2 rfl rfl rfl rfl) ?_
      refine PR_free (by rfl) (by rfl) (by rfl) (by exact wn0 rfl) (fun wS => (x_pick_f (v := .bool false) (by rfl) (by rfl))) ?_
      refine PR_nil ?_
      exact ⟨⟨congrArg Value.bool (Option.some.inj hm), rfl, rfl, rfl, rfl, rfl, trivial⟩, H⟩
     ·have hm := cond_t hbS hmS
      refine PR_free (by rfl) (by rfl) (by rfl) (by exact wn1 rfl rfl rfl rfl) (fun wS => (x_move (v := .int .i64 v32.2) (by rfl))) ?_
      refine PR_free (by rfl) (by rfl) (by rfl) (by exact wn1 rfl rfl rfl rfl) (fun wS => (x_eql (by rfl) (by rfl))) ?_
      refine PR_free (by rfl) (by rfl) (by rfl) (by exact wn0 rfl) (fun wS => (x_pick_t (v := .bool (v32.2 == 0)) (by rfl) (by rfl))) ?_
      refine PR_nil ?_
      exact ⟨⟨congrArg Value.bool (Option.some.inj hm), rfl, rfl, rfl, rfl, rfl, trivial⟩, H⟩
    ·rintro r' w' ⟨hA, H⟩
     obtain ⟨r45, rfl⟩ := regen _ hA; clear hA
     obtain ⟨w46, rfl⟩ : ∃ W : World, W = w' := ⟨_, rfl⟩
     show PR _ _ _ _ _ _ _ _
     refine PR_free (by rfl) (by rfl) (by rfl) (by exact wn0 rfl) (fun wS => (x_move (v := .bool b44) (by rfl))) ?_
     obtain ⟨b47, hmS, hm⟩ := bind_some hm
     refine PR_cut 4 (fun r' w' => Agr [(70, .bool b47), (2, .pointer (some ⟨b12, 0, none⟩)), (4, .slice A19 v17.1.length cp20), (6, .slice A25 v23.1.length cp26), (8, .bool v29.1), (10, .bool v32.1)] r' ∧ Sep ok w w' [.blk b10 79 [.slice A4 v2.1.Arena.Slots.length cp5, .slice A7 v2.1.Kids.length cp8], .blk b12 82 [.int .i64 v2.2.1.a0.Slot, .int .i64 v2.2.1.a0.Gen, .int .i64 v2.2.1.a1.Slot, .int .i64 v2.2.1.a1.Gen, .int .i64 v2.2.1.a2.Slot, .int .i64 v2.2.1.a2.Gen]] [RE.rd k_Slot A4 cp5 v2.1.Arena.Slots, RE.rd (Kd.slice k_Handle) A7 cp8 v2.1.Kids, RE.rd k_Handle A19 cp20 v17.1, RE.rd k_Handle A25 cp26 v23.1]) ?_ ?_
     ·cases hbS : b44
      ·have hm := cond_f hbS hmS
       refine PR_offF (by rfl) (by rfl) (by rfl) (by exact wn2 rfl rfl rfl rfl) ?_
       refine PR_offF (by rfl) (by rfl) (by rfl) (by exact wn2 rfl rfl rfl rfl) ?_
       refine PR_offF (by rfl) (by rfl) (by rfl) (by exact wn2 rfl rfl rfl rfl) ?_
       refine PR_free (by rfl) (by rfl) (by rfl) (by exact wn0 rfl) (fun wS => (x_pick_f (v := .bool false) (by rfl) (by rfl))) ?_
       refine PR_nil ?_
       exact ⟨⟨congrArg Value.bool (Option.some.inj hm), rfl, rfl, rfl, rfl, rfl, trivial⟩, H⟩
      ·have hm := cond_t hbS hmS
       refine PR_free (by rfl) (by rfl) (by rfl) (by exact wn1 rfl rfl rfl rfl) (fun wS => (x_move (v := .slice A19 v17.1.length cp20) (by rfl))) ?_
       refine PR_free (by rfl) (by rfl) (by rfl) (by exact wn1 rfl rfl rfl rfl) (fun wS => (x_len sl87 (by rfl))) ?_
       refine PR_free (by rfl) (by rfl) (by rfl) (by exact wn1 rfl rfl rfl rfl) (fun wS => (x_eql (by rfl) (by rfl))) ?_
       refine PR_free (by rfl) (by rfl) (by rfl) (by exact wn0 rfl) (fun wS => (x_pick_t (v := .bool ((v17.1.length : Int) == 2)) (by rfl) (by rfl))) ?_
       refine PR_nil ?_
       exact ⟨⟨congrArg Value.bool (Option.some.inj hm), rfl, rfl, rfl, rfl, rfl, trivial⟩, H⟩
     ·rintro r' w' ⟨hA, H⟩
      obtain ⟨r48, rfl⟩ := regen _ hA; clear hA
      obtain ⟨w49, rfl⟩ : ∃ W : World, W = w' := ⟨_, rfl⟩
      show PR _ _ _ _ _ _ _ _
      refine PR_free (by rfl) (by rfl) (by rfl) (by exact wn0 rfl) (fun wS => (x_move (v := .bool b47) (by rfl))) ?_
      obtain ⟨b50, hmS, hm⟩ := bind_some hm
      refine PR_cut 7 (fun r' w' => Agr [(78, .bool b50), (2, .pointer (some ⟨b12, 0, none⟩)), (6, .slice A25 v23.1.length cp26), (8, .bool v29.1), (10, .bool v32.1)] r' ∧ Sep ok w w' [.blk b10 79 [.slice A4 v2.1.Arena.Slots.length cp5, .slice A7 v2.1.Kids.length cp8], .blk b12 82 [.int .i64 v2.2.1.a0.Slot, .int .i64 v2.2.1.a0.Gen, .int .i64 v2.2.1.a1.Slot, .int .i64 v2.2.1.a1.Gen, .int .i64 v2.2.1.a2.Slot, .int .i64 v2.2.1.a2.Gen]] [RE.rd k_Slot A4 cp5 v2.1.Arena.Slots, RE.rd (Kd.slice k_Handle) A7 cp8 v2.1.Kids, RE.rd k_Handle A19 cp20 v17.1, RE.rd k_Handle A25 cp26 v23.1]) ?_ ?_
      ·cases hbS : b47
       ·have hm := cond_f hbS hmS
        refine PR_offF (by rfl) (by rfl) (by rfl) (by exact wn2 rfl rfl rfl rfl) ?_
        refine PR_offF (by rfl) (by rfl) (by rfl) (by exact wn2 rfl rfl rfl rfl) ?_
        refine PR_off (by rfl) (by rfl) (by rfl) (by exact wn2 rfl rfl rfl rfl) ?_
        refine PR_offF (by rfl) (by rfl) (by rfl) (by exact wn2 rfl rfl rfl rfl) ?_
        refine PR_off (by rfl) (by rfl) (by rfl) (by exact wn2 rfl rfl rfl rfl) ?_
        refine PR_offF (by rfl) (by rfl) (by rfl) (by exact wn2 rfl rfl rfl rfl) ?_
        refine PR_free (by rfl) (by rfl) (by rfl) (by exact wn0 rfl) (fun wS => (x_pick_f (v := .bool false) (by rfl) (by rfl))) ?_
        refine PR_nil ?_
        exact ⟨⟨congrArg Value.bool (Option.some.inj hm), rfl, rfl, rfl, rfl, trivial⟩, H⟩
       ·have hm := cond_t hbS hmS
        refine PR_free (by rfl) (by rfl) (by rfl) (by exact wn1 rfl rfl rfl rfl) (fun wS => (x_move (v := .slice A19 v17.1.length cp20) (by rfl))) ?_
        obtain ⟨el51, h52, h53, he54, hm⟩ := idx_some hm
        obtain ⟨g56, o57, hA55⟩ := (H.rd (i := 2) (by rfl)).addr he54
        refine PR_free (by rfl) (by rfl) (by rfl) (by exact wn1 rfl rfl rfl rfl) (fun wS => (x_indexAddr sl87 sz81 (by rfl) (by rfl) hA55 h52 h53)) ?_
        refine PR_take (by rfl) (by rfl) (by rfl) (by exact wn1 rfl rfl rfl rfl) (fun wS (H : Sep ok w wS [.blk b10 79 [.slice A4 v2.1.Arena.Slots.length cp5, .slice A7 v2.1.Kids.length cp8], .blk b12 82 [.int .i64 v2.2.1.a0.Slot, .int .i64 v2.2.1.a0.Gen, .int .i64 v2.2.1.a1.Slot, .int .i64 v2.2.1.a1.Gen, .int .i64 v2.2.1.a2.Slot, .int .i64 v2.2.1.a2.Gen]] [RE.rd k_Slot A4 cp5 v2.1.Arena.Slots, RE.rd (Kd.slice k_Handle) A7 cp8 v2.1.Kids, RE.rd k_Handle A19 cp20 v17.1, RE.rd k_Handle A25 cp26 v23.1]) => (x_loadA (j := 0) (vs := [.int .i64 el51.Slot, .int .i64 el51.Gen]) ag81 (by rfl) (Rd.flatAt (n := 2) (H.rd (i := 2) (by rfl)) hA55 he54) (by rfl) (by rfl))) ?_
        refine PR_free (by rfl) (by rfl) (by rfl) (by exact wn1 rfl rfl rfl rfl) (fun wS => (x_indexArr ar82 sz81 (by rfl) (by rfl) (by decide) (by decide))) ?_
        refine PR_take (by rfl) (by rfl) (by rfl) (by exact wn1 rfl rfl rfl rfl) (fun wS (H : Sep ok w wS [.blk b10 79 [.slice A4 v2.1.Arena.Slots.length cp5, .slice A7 v2.1.Kids.length cp8], .blk b12 82 [.int .i64 v2.2.1.a0.Slot, .int .i64 v2.2.1.a0.Gen, .int .i64 v2.2.1.a1.Slot, .int .i64 v2.2.1.a1.Gen, .int .i64 v2.2.1.a2.Slot, .int .i64 v2.2.1.a2.Gen]] [RE.rd k_Slot A4 cp5 v2.1.Arena.Slots, RE.rd (Kd.slice k_Handle) A7 cp8 v2.1.Kids, RE.rd k_Handle A19 cp20 v17.1, RE.rd k_Handle A25 cp26 v23.1]) => (x_loadA (j := 2) (vs := [.int .i64 v2.2.1.a1.Slot, .int .i64 v2.2.1.a1.Gen]) ag81 (by rfl) (H.cells (i := 1) (by rfl)) (by rfl) (by rfl))) ?_
        refine PR_free (by rfl) (by rfl) (by rfl) (by exact wn1 rfl rfl rfl rfl) (fun wS => (x_eqls ep81 eg81 (by rfl) (by rfl) (b := ((el51.Slot == v2.2.1.a1.Slot) && (el51.Gen == v2.2.1.a1.Gen))) (by rfl))) ?_
        refine PR_free (by rfl) (by rfl) (by rfl) (by exact wn0 rfl) (fun wS => (x_pick_t (v := .bool ((el51.Slot == v2.2.1.a1.Slot) && (el51.Gen == v2.2.1.a1.Gen))) (by rfl) (by rfl))) ?_
        refine PR_nil ?_
        exact ⟨⟨congrArg Value.bool (Option.some.inj hm), rfl, rfl, rfl, rfl, trivial⟩, H⟩
      ·rintro r' w' ⟨hA, H⟩
       obtain ⟨r58, rfl⟩ := regen _ hA; clear hA
       obtain ⟨w59, rfl⟩ : ∃ W : World, W = w' := ⟨_, rfl⟩
       show PR _ _ _ _ _ _ _ _
       refine PR_free (by rfl) (by rfl) (by rfl) (by exact wn0 rfl) (fun wS => (x_move (v := .bool b50) (by rfl))) ?_
       obtain ⟨b60, hmS, hm⟩ := bind_some hm
       refine PR_cut 4 (fun r' w' => Agr [(83, .bool b60), (2, .pointer (some ⟨b12, 0, none⟩)), (6, .slice A25 v23.1.length cp26), (8, .bool v29.1), (10, .bool v32.1)] r' ∧ Sep ok w w' [.blk b10 79 [.slice A4 v2.1.Arena.Slots.length cp5, .slice A7 v2.1.Kids.length cp8], .blk b12 82 [.int .i64 v2.2.1.a0.Slot, .int .i64 v2.2.1.a0.Gen, .int .i64 v2.2.1.a1.Slot, .int .i64 v2.2.1.a1.Gen, .int .i64 v2.2.1.a2.Slot, .int .i64 v2.2.1.a2.Gen]] [RE.rd k_Slot A4 cp5 v2.1.Arena.Slots, RE.rd (Kd.slice k_Handle) A7 cp8 v2.1.Kids, RE.rd k_Handle A19 cp20 v17.1, RE.rd k_Handle A25 cp26 v23.1]) ?_ ?_
       ·cases hbS : b50
        ·have hm := cond_f hbS hmS
         refine PR_offF (by rfl) (by rfl) (by rfl) (by exact wn2 rfl rfl rfl rfl) ?_
         refine PR_offF (by rfl) (by rfl) (by rfl) (by exact wn2 rfl rfl rfl rfl) ?_
         refine PR_offF (by rfl) (by rfl) (by rfl) (by exact wn2 rfl rfl rfl rfl) ?_
         refine PR_free (by rfl) (by rfl) (by rfl) (by exact wn0 rfl) (fun wS => (x_pick_f (v := .bool false) (by rfl) (by rfl))) ?_
         refine PR_nil ?_
         exact ⟨⟨congrArg Value.bool (Option.some.inj hm), rfl, rfl, rfl, rfl, trivial⟩, H⟩
        ·have hm := cond_t hbS hmS
         refine PR_free (by rfl) (by rfl) (by rfl) (by exact wn1 rfl rfl rfl rfl) (fun wS => (x_move (v := .slice A25 v23.1.length cp26) (by rfl))) ?_
         refine PR_free (by rfl) (by rfl) (by rfl) (by exact wn1 rfl rfl rfl rfl) (fun wS => (x_len sl87 (by rfl))) ?_
         refine PR_free (by rfl) (by rfl) (by rfl) (by exact wn1 rfl rfl rfl rfl) (fun wS => (x_eql (by rfl) (by rfl))) ?_
         refine PR_free (by rfl) (by rfl) (by rfl) (by exact wn0 rfl) (fun wS => (x_pick_t (v := .bool ((v23.1.length : Int) == 2)) (by rfl) (by rfl))) ?_
         refine PR_nil ?_
         exact ⟨⟨congrArg Value.bool (Option.some.inj hm), rfl, rfl, rfl, rfl, trivial⟩, H⟩
       ·rintro r' w' ⟨hA, H⟩
        obtain ⟨r61, rfl⟩ := regen _ hA; clear hA
        obtain ⟨w62, rfl⟩ : ∃ W : World, W = w' := ⟨_, rfl⟩
        show PR _ _ _ _ _ _ _ _
        refine PR_free (by rfl) (by rfl) (by rfl) (by exact wn0 rfl) (fun wS => (x_move (v := .bool b60) (by rfl))) ?_
        obtain ⟨b63, hmS, hm⟩ := bind_some hm
        refine PR_cut 7 (fun r' w' => Agr [(91, .bool b63), (8, .bool v29.1), (10, .bool v32.1)] r' ∧ Sep ok w w' [.blk b10 79 [.slice A4 v2.1.Arena.Slots.length cp5, .slice A7 v2.1.Kids.length cp8], .blk b12 82 [.int .i64 v2.2.1.a0.Slot, .int .i64 v2.2.1.a0.Gen, .int .i64 v2.2.1.a1.Slot, .int .i64 v2.2.1.a1.Gen, .int .i64 v2.2.1.a2.Slot, .int .i64 v2.2.1.a2.Gen]] [RE.rd k_Slot A4 cp5 v2.1.Arena.Slots, RE.rd (Kd.slice k_Handle) A7 cp8 v2.1.Kids, RE.rd k_Handle A19 cp20 v17.1, RE.rd k_Handle A25 cp26 v23.1]) ?_ ?_
        ·cases hbS : b60
         ·have hm := cond_f hbS hmS
          refine PR_offF (by rfl) (by rfl) (by rfl) (by exact wn2 rfl rfl rfl rfl) ?_
          refine PR_offF (by rfl) (by rfl) (by rfl) (by exact wn2 rfl rfl rfl rfl) ?_
          refine PR_off (by rfl) (by rfl) (by rfl) (by exact wn2 rfl rfl rfl rfl) ?_
          refine PR_offF (by rfl) (by rfl) (by rfl) (by exact wn2 rfl rfl rfl rfl) ?_
          refine PR_off (by rfl) (by rfl) (by rfl) (by exact wn2 rfl rfl rfl rfl) ?_
          refine PR_offF (by rfl) (by rfl) (by rfl) (by exact wn2 rfl rfl rfl rfl) ?_
          refine PR_free (by rfl) (by rfl) (by rfl) (by exact wn0 rfl) (fun wS => (x_pick_f (v := .bool false) (by rfl) (by rfl))) ?_
          refine PR_nil ?_
          exact ⟨⟨congrArg Value.bool (Option.some.inj hm), rfl, rfl, trivial⟩, H⟩
         ·have hm := cond_t hbS hmS
          refine PR_free (by rfl) (by rfl) (by rfl) (by exact wn1 rfl rfl rfl rfl) (fun wS => (x_move (v := .slice A25 v23.1.length cp26) (by rfl))) ?_
          obtain ⟨el64, h65, h66, he67, hm⟩ := idx_some hm
          obtain ⟨g69, o70, hA68⟩ := (H.rd (i := 3) (by rfl)).addr he67
          refine PR_free (by rfl) (by rfl) (by rfl) (by exact wn1 rfl rfl rfl rfl) (fun wS => (x_indexAddr sl87 sz81 (by rfl) (by rfl) hA68 h65 h66)) ?_
          refine PR_take (by rfl) (by rfl) (by rfl) (by exact wn1 rfl rfl rfl rfl) (fun wS (H : Sep ok w wS [.blk b10 79 [.slice A4 v2.1.Arena.Slots.length cp5, .slice A7 v2.1.Kids.length cp8], .blk b12 82 [.int .i64 v2.2.1.a0.Slot, .int .i64 v2.2.1.a0.Gen, .int .i64 v2.2.1.a1.Slot, .int .i64 v2.2.1.a1.Gen, .int .i64 v2.2.1.a2.Slot, .int .i64 v2.2.1.a2.Gen]] [RE.rd k_Slot A4 cp5 v2.1.Arena.Slots, RE.rd (Kd.slice k_Handle) A7 cp8 v2.1.Kids, RE.rd k_Handle A19 cp20 v17.1, RE.rd k_Handle A25 cp26 v23.1]) => (x_loadA (j := 0) (vs := [.int .i64 el64.Slot, .int .i64 el64.Gen]) ag81 (by rfl) (Rd.flatAt (n := 2) (H.rd (i := 3) (by rfl)) hA68 he67) (by rfl) (by rfl))) ?_
          refine PR_free (by rfl) (by rfl) (by rfl) (by exact wn1 rfl rfl rfl rfl) (fun wS => (x_indexArr ar82 sz81 (by rfl) (by rfl) (by decide) (by decide))) ?_
          refine PR_take (by rfl) (by rfl) (by rfl) (by exact wn1 rfl rfl rfl rfl) (fun wS (H : Sep ok w wS [.blk b10 79 [.slice A4 v2.1.Arena.Slots.length cp5, .slice A7 v2.1.Kids.length cp8], .blk b12 82 [.int .i64 v2.2.1.a0.Slot, .int .i64 v2.2.1.a0.Gen, .int .i64 v2.2.1.a1.Slot, .int .i64 v2.2.1.a1.Gen, .int .i64 v2.2.1.a2.Slot, .int .i64 v2.2.1.a2.Gen]] [RE.rd k_Slot A4 cp5 v2.1.Arena.Slots, RE.rd (Kd.slice k_Handle) A7 cp8 v2.1.Kids, RE.rd k_Handle A19 cp20 v17.1, RE.rd k_Handle A25 cp26 v23.1]) => (x_loadA (j := 0) (vs := [.int .i64 v2.2.1.a0.Slot, .int .i64 v2.2.1.a0.Gen]) ag81 (by rfl) (H.cells (i := 1) (by rfl)) (by rfl) (by rfl))) ?_
          refine PR_free (by rfl) (by rfl) (by rfl) (by exact wn1 rfl rfl rfl rfl) (fun wS => (x_eqls ep81 eg81 (by rfl) (by rfl) (b := ((el64.Slot == v2.2.1.a0.Slot) && (el64.Gen == v2.2.1.a0.Gen))) (by rfl))) ?_
          refine PR_free (by rfl) (by rfl) (by rfl) (by exact wn0 rfl) (fun wS => (x_pick_t (v := .bool ((el64.Slot == v2.2.1.a0.Slot) && (el64.Gen == v2.2.1.a0.Gen))) (by rfl) (by rfl))) ?_
          refine PR_nil ?_
          exact ⟨⟨congrArg Value.bool (Option.some.inj hm), rfl, rfl, trivial⟩, H⟩
        ·rintro r' w' ⟨hA, H⟩
         obtain ⟨r71, rfl⟩ := regen _ hA; clear hA
         obtain ⟨w72, rfl⟩ : ∃ W : World, W = w' := ⟨_, rfl⟩
         show PR _ _ _ _ _ _ _ _
         refine PR_free (by rfl) (by rfl) (by rfl) (by exact wn0 rfl) (fun wS => (x_move (v := .bool b63) (by rfl))) ?_
         obtain ⟨b73, hmS, hm⟩ := bind_some hm
         refine PR_cut 2 (fun r' w' => Agr [(94, .bool b73), (10, .bool v32.1)] r' ∧ Sep ok w w' [.blk b10 79 [.slice A4 v2.1.Arena.Slots.length cp5, .slice A7 v2.1.Kids.length cp8], .blk b12 82 [.int .i64 v2.2.1.a0.Slot, .int .i64 v2.2.1.a0.Gen, .int .i64 v2.2.1.a1.Slot, .int .i64 v2.2.1.a1.Gen, .int .i64 v2.2.1.a2.Slot, .int .i64 v2.2.1.a2.Gen]] [RE.rd k_Slot A4 cp5 v2.1.Arena.Slots, RE.rd (Kd.slice k_Handle) A7 cp8 v2.1.Kids, RE.rd k_Handle A19 cp20 v17.1, RE.rd k_Handle A25 cp26 v23.1]) ?_ ?_
         ·cases hbS : b63
          ·have hm := cond_f hbS hmS
           refine PR_offF (by rfl) (by rfl) (by rfl) (by exact wn2 rfl rfl rfl rfl) ?_
           refine PR_free (by rfl) (by rfl) (by rfl) (by exact wn0 rfl) (fun wS => (x_pick_f (v := .bool false) (by rfl) (by rfl))) ?_
           refine PR_nil ?_
           exact ⟨⟨congrArg Value.bool (Option.some.inj hm), rfl, trivial⟩, H⟩
          ·have hm := cond_t hbS hmS
           refine PR_free (by rfl) (by rfl) (by rfl) (by exact wn1 rfl rfl rfl rfl) (fun wS => (x_move (v := .bool v29.1) (by rfl))) ?_
           refine PR_free (by rfl) (by rfl) (by rfl) (by exact wn0 rfl) (fun wS => (x_pick_t (v := .bool v29.1) (by rfl) (by rfl))) ?_
           refine PR_nil ?_
           exact ⟨⟨congrArg Value.bool (Option.some.inj hm), rfl, trivial⟩, H⟩
         ·rintro r' w' ⟨hA, H⟩
          obtain ⟨r74, rfl⟩ := regen _ hA; clear hA
          obtain ⟨w75, rfl⟩ : ∃ W : World, W = w' := ⟨_, rfl⟩
          show PR _ _ _ _ _ _ _ _
          refine PR_free (by rfl) (by rfl) (by rfl) (by exact wn0 rfl) (fun wS => (x_move (v := .bool b73) (by rfl))) ?_
          obtain ⟨b76, hmS, hm⟩ := bind_some hm
          refine PR_cut 3 (fun r' w' => Agr [(98, .bool b76)] r' ∧ Sep ok w w' [.blk b10 79 [.slice A4 v2.1.Arena.Slots.length cp5, .slice A7 v2.1.Kids.length cp8], .blk b12 82 [.int .i64 v2.2.1.a0.Slot, .int .i64 v2.2.1.a0.Gen, .int .i64 v2.2.1.a1.Slot, .int .i64 v2.2.1.a1.Gen, .int .i64 v2.2.1.a2.Slot, .int .i64 v2.2.1.a2.Gen]] [RE.rd k_Slot A4 cp5 v2.1.Arena.Slots, RE.rd (Kd.slice k_Handle) A7 cp8 v2.1.Kids, RE.rd k_Handle A19 cp20 v17.1, RE.rd k_Handle A25 cp26 v23.1]) ?_ ?_
          ·cases hbS : b73
           ·have hm := cond_f hbS hmS
            refine PR_offF (by rfl) (by rfl) (by rfl) (by exact wn2 rfl rfl rfl rfl) ?_
            refine PR_offF (by rfl) (by rfl) (by rfl) (by exact wn2 rfl rfl rfl rfl) ?_
            refine PR_free (by rfl) (by rfl) (by rfl) (by exact wn0 rfl) (fun wS => (x_pick_f (v := .bool false) (by rfl) (by rfl))) ?_
            refine PR_nil ?_
            exact ⟨⟨congrArg Value.bool (Option.some.inj hm), trivial⟩, H⟩
           ·have hm := cond_t hbS hmS
            refine PR_free (by rfl) (by rfl) (by rfl) (by exact wn1 rfl rfl rfl rfl) (fun wS => (x_move (v := .bool v32.1) (by rfl))) ?_
            refine PR_free (by rfl) (by rfl) (by rfl) (by exact wn1 rfl rfl rfl rfl) (fun wS => (x_not (by rfl))) ?_
            refine PR_free (by rfl) (by rfl) (by rfl) (by exact wn0 rfl) (fun wS => (x_pick_t (v := .bool (!v32.1)) (by rfl) (by rfl))) ?_
            refine PR_nil ?_
            exact ⟨⟨congrArg Value.bool (Option.some.inj hm), trivial⟩, H⟩
          ·rintro r' w' ⟨hA, H⟩
           obtain ⟨r77, rfl⟩ := regen _ hA; clear hA
           obtain ⟨w78, rfl⟩ : ∃ W : World, W = w' := ⟨_, rfl⟩
           show PR _ _ _ _ _ _ _ _
           refine PR_free (by rfl) (by rfl) (by rfl) (by exact wn0 rfl) (fun wS => (x_assign (v := .bool b76) (by rfl))) ?_
           refine PR_nil ?_
           refine W_ret ?_
           obtain rfl := Option.some.inj hm
           exact ⟨[.bool b76], (.tmp (by rfl) rfl), rfl, H.none_⟩
end Go.Proofs.YtobkigllalbkiaaV.M

/- A plain Lean function that answers as the Go function does (none: not told), and the proof that a call answers so. Written by program. -/
set_option linter.unusedVariables false
namespace Go.Proofs.YtobkigllalbkiaaV.M
open Go.RowKit Go.Proofs.YtobkigllalbkiaaV
/-- diorama/dioramalaw06.NodesNames -/
def m8 (K : Nat)  : Option (Bool) :=
 ((m37 K ).bind fun v2 => ((m38 K v2.1 v2.2.1.a2 v2.2.1.a0 0).bind fun v17 => ((m38 K v2.1 v2.2.1.a2 v2.2.1.a2 0).bind fun v29 => ((m38 K v2.1 v2.2.1.a0 v2.2.1.a2 3).bind fun v41 => ((m38 K v2.1 v2.2.1.a0 v2.2.1.a2 1).bind fun v53 => ((m39 K v53.1 v2.2.1.a0).bind fun v65 => ((m40 K v2.1 v2.2.1.a1).bind fun v71 => ((m39 K v71.1 v2.2.1.a0).bind fun v83 => ((m39 K v71.1 v2.2.1.a1).bind fun v89 => ((m41 K v2.1 v2.2.1.a0 2).bind fun v95 => ((bif (v17.2 == 60) then some (v29.2 == 60) else some false).bind fun b107 => ((bif b107 then some (v41.2 == 2) else some false).bind fun b110 => ((bif b110 then some (v53.2 == 0) else some false).bind fun b113 => ((bif b113 then some ((v65.1.length : Int) == 3) else some false).bind fun b116 => ((bif b116 then (idx v65.1 1 fun el120 => some ((el120.Slot == v2.2.1.a2.Slot) && (el120.Gen == v2.2.1.a2.Gen))) else some false).bind fun b119 => ((m42 K ).bind fun v130 => ((bif v130 then some b119 else some false).bind fun b132 => ((bif b132 then some (v71.2 == 0) else some false).bind fun b135 => ((bif b135 then some ((v83.1.length : Int) == 0) else some false).bind fun b138 => ((bif b138 then some (v83.2 == 0) else some false).bind fun b141 => ((bif b141 then some (v89.2 == 50) else some false).bind fun b144 => ((bif b144 then some (v95.2 == 2) else some false).bind fun b147 => ((bif b147 then (mks 24 1 ([] : (List S_Handle)) fun l154 => ((m43 K (⟨(⟨[]⟩ : S_Arena), l154⟩ : S_Graph)).bind fun v161 => some (v161 == 8))) else some false).bind fun b150 => some b150)))))))))))))))))))))))
set_option maxRecDepth 100000 in
set_option maxHeartbeats 4000000 in
theorem c8 (ok : Okp) (K : Nat) (w : World)  (res : Bool) (hm : m8 K  = some res) :
  Calls Try.prog 8 #[] w (fun e w' => e = .returned (tup [.bool res]) ∧ Sep ok w w' [] []) := by
 refine calls_W (args := []) Try.func8 rfl Try.ntmps8 Try.results8 rfl fun r hr => ?_
 obtain ⟨r1, rfl⟩ : ∃ R, R = r := ⟨_, rfl⟩
 have H : Sep ok w w [] [] := Sep.start ok w
 unfold m8 at hm
 refine W_seq ?_
 refine W_region ?_
 refine RL_pure (by exact wn0 rfl) (by rfl) (by rfl) (x_assign (v := .bool false) (by rfl)) ?_
 refine RL_nil ?_
 refine W_seq ?_
 refine W_region ?_
 obtain ⟨v2, hv1, hm⟩ := bind_some hm
 refine RL_cons (O_call (by exact wn0 rfl) (by rfl) (by rfl) (x_callL (by rfl) (args := []) (by rfl) (cf37 _ _)) (c37 (okS ok w []) K w   v2 hv1) ?_)
 rintro e w3 ⟨A4, cp5, A7, cp8, rfl, H2⟩
 have H : Sep ok w w3 [] [RE.rd k_Slot A4 cp5 v2.1.Arena.Slots, RE.rd (Kd.slice k_Handle) A7 cp8 v2.1.Kids] := H.call H2
 clear H2
 refine ⟨_, rfl, ?_⟩
 show RL _ _ _ _ _ _ _
 refine RL_pure (by exact wn0 rfl) (by rfl) (by rfl) (x_move (v := tup [.agg #[.slice A4 v2.1.Arena.Slots.length cp5, .slice A7 v2.1.Kids.length cp8], .agg #[.int .i64 v2.2.1.a0.Slot, .int .i64 v2.2.1.a0.Gen, .int .i64 v2.2.1.a1.Slot, .int .i64 v2.2.1.a1.Gen, .int .i64 v2.2.1.a2.Slot, .int .i64 v2.2.1.a2.Gen], .bool v2.2.2]) (by rfl)) ?_
 refine RL_pure (by exact wn0 rfl) (by rfl) (by rfl) (x_extract (v := .agg #[.slice A4 v2.1.Arena.Slots.length cp5, .slice A7 v2.1.Kids.length cp8]) (by rfl) (by rfl)) ?_
 refine RL_pure (by exact wn0 rfl) (by rfl) (by rfl) (x_extract (v := .agg #[.int .i64 v2.2.1.a0.Slot, .int .i64 v2.2.1.a0.Gen, .int .i64 v2.2.1.a1.Slot, .int .i64 v2.2.1.a1.Gen, .int .i64 v2.2.1.a2.Slot, .int .i64 v2.2.1.a2.Gen]) (by rfl) (by rfl)) ?_
 refine RL_pure (by exact wn0 rfl) (by rfl) (by rfl) (x_extract (v := .bool v2.2.2) (by rfl) (by rfl)) ?_
 refine RL_cons (O_alloc (by exact wn0 rfl) (by rfl) ze79 (by rfl) H (fun w11 b10 (H : Sep ok w w11 [.blk b10 79 [.slice none 0 0, .slice none 0 0]] [RE.rd k_Slot A4 cp5 v2.1.Arena.Slots, RE.rd (Kd.slice k_Handle) A7 cp8 v2.1.Kids]) => ?_))
 refine RL_cons (O_alloc (by exact wn0 rfl) (by rfl) ze82 (by rfl) H (fun w13 b12 (H : Sep ok w w13 [.blk b10 79 [.slice none 0 0, .slice none 0 0], .blk b12 82 [.int .i64 0, .int .i64 0, .int .i64 0, .int .i64 0, .int .i64 0, .int .i64 0]] [RE.rd k_Slot A4 cp5 v2.1.Arena.Slots, RE.rd (Kd.slice k_Handle) A7 cp8 v2.1.Kids]) => ?_))
 refine RL_cons (O_store (i := 0) (off := 0) (by exact wn0 rfl) (by rfl) (by rfl) H (by rfl) (vs := [.slice A4 v2.1.Arena.Slots.length cp5, .slice A7 v2.1.Kids.length cp8]) (by rfl) sz79 (by rfl) (by rfl) (by rfl) (fun w14 (H : Sep ok w w14 [.blk b10 79 [.slice A4 v2.1.Arena.Slots.length cp5, .slice A7 v2.1.Kids.length cp8], .blk b12 82 [.int .i64 0, .int .i64 0, .int .i64 0, .int .i64 0, .int .i64 0, .int .i64 0]] [RE.rd k_Slot A4 cp5 v2.1.Arena.Slots, RE.rd (Kd.slice k_Handle) A7 cp8 v2.1.Kids]) => ?_))
 refine RL_cons (O_store (i := 1) (off := 0) (by exact wn0 rfl) (by rfl) (by rfl) H (by rfl) (vs := [.int .i64 v2.2.1.a0.Slot, .int .i64 v2.2.1.a0.Gen, .int .i64 v2.2.1.a1.Slot, .int .i64 v2.2.1.a1.Gen, .int .i64 v2.2.1.a2.Slot, .int .i64 v2.2.1.a2.Gen]) (by rfl) sz82 (by rfl) (by rfl) (by rfl) (fun w15 (H : Sep ok w w15 [.blk b10 79 [.slice A4 v2.1.Arena.Slots.length cp5, .slice A7 v2.1.Kids.length cp8], .blk b12 82 [.int .i64 v2.2.1.a0.Slot, .int .i64 v2.2.1.a0.Gen, .int .i64 v2.2.1.a1.Slot, .int .i64 v2.2.1.a1.Gen, .int .i64 v2.2.1.a2.Slot, .int .i64 v2.2.1.a2.Gen]] [RE.rd k_Slot A4 cp5 v2.1.Arena.Slots, RE.rd (Kd.slice k_Handle) A7 cp8 v2.1.Kids]) => ?_))
 refine RL_pure (by exact wn0 rfl) (by rfl) (by rfl) (x_assign (v := .bool v2.2.2) (by rfl)) ?_
 refine RL_nil ?_
 refine W_seq ?_
 refine W_region ?_
 refine RL_pure (by exact wn0 rfl) (by rfl) (by rfl) (x_loadA (j := 0) (vs := [.slice A4 v2.1.Arena.Slots.length cp5, .slice A7 v2.1.Kids.length cp8]) ag79 (by rfl) (H.cells (i := 0) (by rfl)) (by rfl) (by rfl)) ?_
 refine RL_pure (by exact wn0 rfl) (by rfl) (by rfl) (x_indexArr ar82 sz81 (by rfl) (by rfl) (by decide) (by decide)) ?_
 refine RL_pure (by exact wn0 rfl) (by rfl) (by rfl) (x_loadA (j := 4) (vs := [.int .i64 v2.2.1.a2.Slot, .int .i64 v2.2.1.a2.Gen]) ag81 (by rfl) (H.cells (i := 1) (by rfl)) (by rfl) (by rfl)) ?_
 refine RL_pure (by exact wn0 rfl) (by rfl) (by rfl) (x_indexArr ar82 sz81 (by rfl) (by rfl) (by decide) (by decide)) ?_
 refine RL_pure (by exact wn0 rfl) (by rfl) (by rfl) (x_loadA (j := 0) (vs := [.int .i64 v2.2.1.a0.Slot, .int .i64 v2.2.1.a0.Gen]) ag81 (by rfl) (H.cells (i := 1) (by rfl)) (by rfl) (by rfl)) ?_
 obtain ⟨v17, hv16, hm⟩ := bind_some hm
 refine RL_cons (O_call (by exact wn0 rfl) (by rfl) (by rfl) (x_callL (by rfl) (args := [.agg #[.slice A4 v2.1.Arena.Slots.length cp5, .slice A7 v2.1.Kids.length cp8], .agg #[.int .i64 v2.2.1.a2.Slot, .int .i64 v2.2.1.a2.Gen], .agg #[.int .i64 v2.2.1.a0.Slot, .int .i64 v2.2.1.a0.Gen], .int .i64 0]) (by rfl) (cf38 _ _)) (c38 (okS ok w [.blk b10 79 [.slice A4 v2.1.Arena.Slots.length cp5, .slice A7 v2.1.Kids.length cp8], .blk b12 82 [.int .i64 v2.2.1.a0.Slot, .int .i64 v2.2.1.a0.Gen, .int .i64 v2.2.1.a1.Slot, .int .i64 v2.2.1.a1.Gen, .int .i64 v2.2.1.a2.Slot, .int .i64 v2.2.1.a2.Gen]]) K w15 v2.1 A4 cp5 A7 cp8 v2.2.1.a2 v2.2.1.a0 0 (H.rd (i := 0) (by rfl)) (H.rd (i := 1) (by rfl)) v17 hv16) ?_)
 rintro e w18 ⟨A19, cp20, A22, cp23, rfl, H2⟩
 have H : Sep ok w w18 [.blk b10 79 [.slice A4 v2.1.Arena.Slots.length cp5, .slice A7 v2.1.Kids.length cp8], .blk b12 82 [.int .i64 v2.2.1.a0.Slot, .int .i64 v2.2.1.a0.Gen, .int .i64 v2.2.1.a1.Slot, .int .i64 v2.2.1.a1.Gen, .int .i64 v2.2.1.a2.Slot, .int .i64 v2.2.1.a2.Gen]] [RE.rd k_Slot A4 cp5 v2.1.Arena.Slots, RE.rd (Kd.slice k_Handle) A7 cp8 v2.1.Kids, RE.rd k_Slot A19 cp20 v17.1.Arena.Slots, RE.rd (Kd.slice k_Handle) A22 cp23 v17.1.Kids] := H.call H2
 clear H2
 refine ⟨_, rfl, ?_⟩
 show RL _ _ _ _ _ _ _
 refine RL_pure (by exact wn0 rfl) (by rfl) (by rfl) (x_move (v := tup [.agg #[.slice A19 v17.1.Arena.Slots.length cp20, .slice A22 v17.1.Kids.length cp23], .int .i64 v17.2]) (by rfl)) ?_
 refine RL_pure (by exact wn0 rfl) (by rfl) (by rfl) (x_extract (v := .agg #[.slice A19 v17.1.Arena.Slots.length cp20, .slice A22 v17.1.Kids.length cp23]) (by rfl) (by rfl)) ?_
 refine RL_pure (by exact wn0 rfl) (by rfl) (by rfl) (x_extract (v := .int .i64 v17.2) (by rfl) (by rfl)) ?_
 refine RL_cons (O_alloc (by exact wn0 rfl) (by rfl) ze79 (by rfl) H (fun w26 b25 (H : Sep ok w w26 [.blk b10 79 [.slice A4 v2.1.Arena.Slots.length cp5, .slice A7 v2.1.Kids.length cp8], .blk b12 82 [.int .i64 v2.2.1.a0.Slot, .int .i64 v2.2.1.a0.Gen, .int .i64 v2.2.1.a1.Slot, .int .i64 v2.2.1.a1.Gen, .int .i64 v2.2.1.a2.Slot, .int .i64 v2.2.1.a2.Gen], .blk b25 79 [.slice none 0 0, .slice none 0 0]] [RE.rd k_Slot A4 cp5 v2.1.Arena.Slots, RE.rd (Kd.slice k_Handle) A7 cp8 v2.1.Kids, RE.rd k_Slot A19 cp20 v17.1.Arena.Slots, RE.rd (Kd.slice k_Handle) A22 cp23 v17.1.Kids]) => ?_))
 refine RL_cons (O_store (i := 2) (off := 0) (by exact wn0 rfl) (by rfl) (by rfl) H (by rfl) (vs := [.slice A19 v17.1.Arena.Slots.length cp20, .slice A22 v17.1.Kids.length cp23]) (by rfl) sz79 (by rfl) (by rfl) (by rfl) (fun w27 (H : Sep ok w w27 [.blk b10 79 [.slice A4 v2.1.Arena.Slots.length cp5, .slice A7 v2.1.Kids.length cp8], .blk b12 82 [.int .i64 v2.2.1.a0.Slot, .int .i64 v2.2.1.a0.Gen, .int .i64 v2.2.1.a1.Slot, .int .i64 v2.2.1.a1.Gen, .int .i64 v2.2.1.a2.Slot, .int .i64 v2.2.1.a2.Gen], .blk b25 79 [.slice A19 v17.1.Arena.Slots.length cp20, .slice A22 v17.1.Kids.length cp23]] [RE.rd k_Slot A4 cp5 v2.1.Arena.Slots, RE.rd (Kd.slice k_Handle) A7 cp8 v2.1.Kids, RE.rd k_Slot A19 cp20 v17.1.Arena.Slots, RE.rd (Kd.slice k_Handle) A22 cp23 v17.1.Kids]) => ?_))
 refine RL_pure (by exact wn0 rfl) (by rfl) (by rfl) (x_assign (v := .int .i64 v17.2) (by rfl)) ?_
 refine RL_nil ?_
 refine W_seq ?_
 refine W_region ?_
 refine RL_pure (by exact wn0 rfl) (by rfl) (by rfl) (x_loadA (j := 0) (vs := [.slice A4 v2.1.Arena.Slots.length cp5, .slice A7 v2.1.Kids.length cp8]) ag79 (by rfl) (H.cells (i := 0) (by rfl)) (by rfl) (by rfl)) ?_
 refine RL_pure (by exact wn0 rfl) (by rfl) (by rfl) (x_indexArr ar82 sz81 (by rfl) (by rfl) (by decide) (by decide)) ?_
 refine RL_pure (by exact wn0 rfl) (by rfl) (by rfl) (x_loadA (j := 4) (vs := [.int .i64 v2.2.1.a2.Slot, .int .i64 v2.2.1.a2.Gen]) ag81 (by rfl) (H.cells (i := 1) (by rfl)) (by rfl) (by rfl)) ?_
 refine RL_pure (by exact wn0 rfl) (by rfl) (by rfl) (x_indexArr ar82 sz81 (by rfl) (by rfl) (by decide) (by decide)) ?_
 refine RL_pure (by exact wn0 rfl) (by rfl) (by rfl) (x_loadA (j := 4) (vs := [.int .i64 v2.2.1.a2.Slot, .int .i64 v2.2.1.a2.Gen]) ag81 (by rfl) (H.cells (i := 1) (by rfl)) (by rfl) (by rfl)) ?_
 obtain ⟨v29, hv28, hm⟩ := bind_some hm
 refine RL_cons (O_call (by exact wn0 rfl) (by rfl) (by rfl) (x_callL (by rfl) (args := [.agg #[.slice A4 v2.1.Arena.Slots.length cp5, .slice A7 v2.1.Kids.length cp8], .agg #[.int .i64 v2.2.1.a2.Slot, .int .i64 v2.2.1.a2.Gen], .agg #[.int .i64 v2.2.1.a2.Slot, .int .i64 v2.2.1.a2.Gen], .int .i64 0]) (by rfl) (cf38 _ _)) (c38 (okS ok w [.blk b10 79 [.slice A4 v2.1.Arena.Slots.length cp5, .slice A7 v2.1.Kids.length cp8], .blk b12 82 [.int .i64 v2.2.1.a0.Slot, .int .i64 v2.2.1.a0.Gen, .int .i64 v2.2.1.a1.Slot, .int .i64 v2.2.1.a1.Gen, .int .i64 v2.2.1.a2.Slot, .int .i64 v2.2.1.a2.Gen], .blk b25 79 [.slice A19 v17.1.Arena.Slots.length cp20, .slice A22 v17.1.Kids.length cp23]]) K w27 v2.1 A4 cp5 A7 cp8 v2.2.1.a2 v2.2.1.a2 0 (H.rd (i := 0) (by rfl)) (H.rd (i := 1) (by rfl)) v29 hv28) ?_)
 rintro e w30 ⟨A31, cp32, A34, cp35, rfl, H2⟩
 have H : Sep ok w w30 [.blk b10 79 [.slice A4 v2.1.Arena.Slots.length cp5, .slice A7 v2.1.Kids.length cp8], .blk b12 82 [.int .i64 v2.2.1.a0.Slot, .int .i64 v2.2.1.a0.Gen, .int .i64 v2.2.1.a1.Slot, .int .i64 v2.2.1.a1.Gen, .int .i64 v2.2.1.a2.Slot, .int .i64 v2.2.1.a2.Gen], .blk b25 79 [.slice A19 v17.1.Arena.Slots.length cp20, .slice A22 v17.1.Kids.length cp23]] [RE.rd k_Slot A4 cp5 v2.1.Arena.Slots, RE.rd (Kd.slice k_Handle) A7 cp8 v2.1.Kids, RE.rd k_Slot A19 cp20 v17.1.Arena.Slots, RE.rd (Kd.slice k_Handle) A22 cp23 v17.1.Kids, RE.rd k_Slot A31 cp32 v29.1.Arena.Slots, RE.rd (Kd.slice k_Handle) A34 cp35 v29.1.Kids] := H.call H2
 clear H2
 refine ⟨_, rfl, ?_⟩
 show RL _ _ _ _ _ _ _
 refine RL_pure (by exact wn0 rfl) (by rfl) (by rfl) (x_move (v := tup [.agg #[.slice A31 v29.1.Arena.Slots.length cp32, .slice A34 v29.1.Kids.length cp35], .int .i64 v29.2]) (by rfl)) ?_
 refine RL_pure (by exact wn0 rfl) (by rfl) (by rfl) (x_extract (v := .agg #[.slice A31 v29.1.Arena.Slots.length cp32, .slice A34 v29.1.Kids.length cp35]) (by rfl) (by rfl)) ?_
 refine RL_pure (by exact wn0 rfl) (by rfl) (by rfl) (x_extract (v := .int .i64 v29.2) (by rfl) (by rfl)) ?_
 refine RL_cons (O_alloc (by exact wn0 rfl) (by rfl) ze79 (by rfl) H (fun w38 b37 (H : Sep ok w w38 [.blk b10 79 [.slice A4 v2.1.Arena.Slots.length cp5, .slice A7 v2.1.Kids.length cp8], .blk b12 82 [.int .i64 v2.2.1.a0.Slot, .int .i64 v2.2.1.a0.Gen, .int .i64 v2.2.1.a1.Slot, .int .i64 v2.2.1.a1.Gen, .int .i64 v2.2.1.a2.Slot, .int .i64 v2.2.1.a2.Gen], .blk b25 79 [.slice A19 v17.1.Arena.Slots.length cp20, .slice A22 v17.1.Kids.length cp23], .blk b37 79 [.slice none 0 0, .slice none 0 0]] [RE.rd k_Slot A4 cp5 v2.1.Arena.Slots, RE.rd (Kd.slice k_Handle) A7 cp8 v2.1.Kids, RE.rd k_Slot A19 cp20 v17.1.Arena.Slots, RE.rd (Kd.slice k_Handle) A22 cp23 v17.1.Kids, RE.rd k_Slot A31 cp32 v29.1.Arena.Slots, RE.rd (Kd.slice k_Handle) A34 cp35 v29.1.Kids]) => ?_))
 refine RL_cons (O_store (i := 3) (off := 0) (by exact wn0 rfl) (by rfl) (by rfl) H (by rfl) (vs := [.slice A31 v29.1.Arena.Slots.length cp32, .slice A34 v29.1.Kids.length cp35]) (by rfl) sz79 (by rfl) (by rfl) (by rfl) (fun w39 (H : Sep ok w w39 [.blk b10 79 [.slice A4 v2.1.Arena.Slots.length cp5, .slice A7 v2.1.Kids.length cp8], .blk b12 82 [.int .i64 v2.2.1.a0.Slot, .int .i64 v2.2.1.a0.Gen, .int .i64 v2.2.1.a1.Slot, .int .i64 v2.2.1.a1.Gen, .int .i64 v2.2.1.a2.Slot, .int .i64 v2.2.1.a2.Gen], .blk b25 79 [.slice A19 v17.1.Arena.Slots.length cp20, .slice A22 v17.1.Kids.length cp23], .blk b37 79 [.slice A31 v29.1.Arena.Slots.length cp32, .slice A34 v29.1.Kids.length cp35]] [RE.rd k_Slot A4 cp5 v2.1.Arena.Slots, RE.rd (Kd.slice k_Handle) A7 cp8 v2.1.Kids, RE.rd k_Slot A19 cp20 v17.1.Arena.Slots, RE.rd (Kd.slice k_Handle) A22 cp23 v17.1.Kids, RE.rd k_Slot A31 cp32 v29.1.Arena.Slots, RE.rd (Kd.slice k_Handle) A34 cp35 v29.1.Kids]) => ?_))
 refine RL_pure (by exact wn0 rfl) (by rfl) (by rfl) (x_assign (v := .int .i64 v29.2) (by rfl)) ?_
 refine RL_nil ?_
 refine W_seq ?_
 refine W_region ?_
 refine RL_pure (by exact wn0 rfl) (by rfl) (by rfl) (x_loadA (j := 0) (vs := [.slice A4 v2.1.Arena.Slots.length cp5, .slice A7 v2.1.Kids.length cp8]) ag79 (by rfl) (H.cells (i := 0) (by rfl)) (by rfl) (by rfl)) ?_
 refine RL_pure (by exact wn0 rfl) (by rfl) (by rfl) (x_indexArr ar82 sz81 (by rfl) (by rfl) (by decide) (by decide)) ?_
 refine RL_pure (by exact wn0 rfl) (by rfl) (by rfl) (x_loadA (j := 0) (vs := [.int .i64 v2.2.1.a0.Slot, .int .i64 v2.2.1.a0.Gen]) ag81 (by rfl) (H.cells (i := 1) (by rfl)) (by rfl) (by rfl)) ?_
 refine RL_pure (by exact wn0 rfl) (by rfl) (by rfl) (x_indexArr ar82 sz81 (by rfl) (by rfl) (by decide) (by decide)) ?_
 refine RL_pure (by exact wn0 rfl) (by rfl) (by rfl) (x_loadA (j := 4) (vs := [.int .i64 v2.2.1.a2.Slot, .int .i64 v2.2.1.a2.Gen]) ag81 (by rfl) (H.cells (i := 1) (by rfl)) (by rfl) (by rfl)) ?_
 obtain ⟨v41, hv40, hm⟩ := bind_some hm
 refine RL_cons (O_call (by exact wn0 rfl) (by rfl) (by rfl) (x_callL (by rfl) (args := [.agg #[.slice A4 v2.1.Arena.Slots.length cp5, .slice A7 v2.1.Kids.length cp8], .agg #[.int .i64 v2.2.1.a0.Slot, .int .i64 v2.2.1.a0.Gen], .agg #[.int .i64 v2.2.1.a2.Slot, .int .i64 v2.2.1.a2.Gen], .int .i64 3]) (by rfl) (cf38 _ _)) (c38 (okS ok w [.blk b10 79 [.slice A4 v2.1.Arena.Slots.length cp5, .slice A7 v2.1.Kids.length cp8], .blk b12 82 [.int .i64 v2.2.1.a0.Slot, .int .i64 v2.2.1.a0.Gen, .int .i64 v2.2.1.a1.Slot, .int .i64 v2.2.1.a1.Gen, .int .i64 v2.2.1.a2.Slot, .int .i64 v2.2.1.a2.Gen], .blk b25 79 [.slice A19 v17.1.Arena.Slots.length cp20, .slice A22 v17.1.Kids.length cp23], .blk b37 79 [.slice A31 v29.1.Arena.Slots.length cp32, .slice A34 v29.1.Kids.length cp35]]) K w39 v2.1 A4 cp5 A7 cp8 v2.2.1.a0 v2.2.1.a2 3 (H.rd (i := 0) (by rfl)) (H.rd (i := 1) (by rfl)) v41 hv40) ?_)
 rintro e w42 ⟨A43, cp44, A46, cp47, rfl, H2⟩
 have H : Sep ok w w42 [.blk b10 79 [.slice A4 v2.1.Arena.Slots.length cp5, .slice A7 v2.1.Kids.length cp8], .blk b12 82 [.int .i64 v2.2.1.a0.Slot, .int .i64 v2.2.1.a0.Gen, .int .i64 v2.2.1.a1.Slot, .int .i64 v2.2.1.a1.Gen, .int .i64 v2.2.1.a2.Slot, .int .i64 v2.2.1.a2.Gen], .blk b25 79 [.slice A19 v17.1.Arena.Slots.length cp20, .slice A22 v17.1.Kids.length cp23], .blk b37 79 [.slice A31 v29.1.Arena.Slots.length cp32, .slice A34 v29.1.Kids.length cp35]] [RE.rd k_Slot A4 cp5 v2.1.Arena.Slots, RE.rd (Kd.slice k_Handle) A7 cp8 v2.1.Kids, RE.rd k_Slot A19 cp20 v17.1.Arena.Slots, RE.rd (Kd.slice k_Handle) A22 cp23 v17.1.Kids, RE.rd k_Slot A31 cp32 v29.1.Arena.Slots, RE.rd (Kd.slice k_Handle) A34 cp35 v29.1.Kids, RE.rd k_Slot A43 cp44 v41.1.Arena.Slots, RE.rd (Kd.slice k_Handle) A46 cp47 v41.1.Kids] := H.call H2
 clear H2
 refine ⟨_, rfl, ?_⟩
 show RL _ _ _ _ _ _ _
 refine RL_pure (by exact wn0 rfl) (by rfl) (by rfl) (x_move (v := tup [.agg #[.slice A43 v41.1.Arena.Slots.length cp44, .slice A46 v41.1.Kids.length cp47], .int .i64 v41.2]) (by rfl)) ?_
 refine RL_pure (by exact wn0 rfl) (by rfl) (by rfl) (x_extract (v := .agg #[.slice A43 v41.1.Arena.Slots.length cp44, .slice A46 v41.1.Kids.length cp47]) (by rfl) (by rfl)) ?_
 refine RL_pure (by exact wn0 rfl) (by rfl) (by rfl) (x_extract (v := .int .i64 v41.2) (by rfl) (by rfl)) ?_
 refine RL_cons (O_alloc (by exact wn0 rfl) (by rfl) ze79 (by rfl) H (fun w50 b49 (H : Sep ok w w50 [.blk b10 79 [.slice A4 v2.1.Arena.Slots.length cp5, .slice A7 v2.1.Kids.length cp8], .blk b12 82 [.int .i64 v2.2.1.a0.Slot, .int .i64 v2.2.1.a0.Gen, .int .i64 v2.2.1.a1.Slot, .int .i64 v2.2.1.a1.Gen, .int .i64 v2.2.1.a2.Slot, .int .i64 v2.2.1.a2.Gen], .blk b25 79 [.slice A19 v17.1.Arena.Slots.length cp20, .slice A22 v17.1.Kids.length cp23], .blk b37 79 [.slice A31 v29.1.Arena.Slots.length cp32, .slice A34 v29.1.Kids.length cp35], .blk b49 79 [.slice none 0 0, .slice none 0 0]] [RE.rd k_Slot A4 cp5 v2.1.Arena.Slots, RE.rd (Kd.slice k_Handle) A7 cp8 v2.1.Kids, RE.rd k_Slot A19 cp20 v17.1.Arena.Slots, RE.rd (Kd.slice k_Handle) A22 cp23 v17.1.Kids, RE.rd k_Slot A31 cp32 v29.1.Arena.Slots, RE.rd (Kd.slice k_Handle) A34 cp35 v29.1.Kids, RE.rd k_Slot A43 cp44 v41.1.Arena.Slots, RE.rd (Kd.slice k_Handle) A46 cp47 v41.1.Kids]) => ?_))
 refine RL_cons (O_store (i := 4) (off := 0) (by exact wn0 rfl) (by rfl) (by rfl) H (by rfl) (vs := [.slice A43 v41.1.Arena.Slots.length cp44, .slice A46 v41.1.Kids.length cp47]) (by rfl) sz79 (by rfl) (by rfl) (by rfl) (fun w51 (H : Sep ok w w51 [.blk b10 79 [.slice A4 v2.1.Arena.Slots.length cp5, .slice A7 v2.1.Kids.length cp8], .blk b12 82 [.int .i64 v2.2.1.a0.Slot, .int .i64 v2.2.1.a0.Gen, .int .i64 v2.2.1.a1.Slot, .int .i64 v2.2.1.a1.Gen, .int .i64 v2.2.1.a2.Slot, .int .i64 v2.2.1.a2.Gen], .blk b25 79 [.slice A19 v17.1.Arena.Slots.length cp20, .slice A22 v17.1.Kids.length cp23], .blk b37 79 [.slice A31 v29.1.Arena.Slots.length cp32, .slice A34 v29.1.Kids.length cp35], .blk b49 79 [.slice A43 v41.1.Arena.Slots.length cp44, .slice A46 v41.1.Kids.length cp47]] [RE.rd k_Slot A4 cp5 v2.1.Arena.Slots, RE.rd (Kd.slice k_Handle) A7 cp8 v2.1.Kids, RE.rd k_Slot A19 cp20 v17.1.Arena.Slots, RE.rd (Kd.slice k_Handle) A22 cp23 v17.1.Kids, RE.rd k_Slot A31 cp32 v29.1.Arena.Slots, RE.rd (Kd.slice k_Handle) A34 cp35 v29.1.Kids, RE.rd k_Slot A43 cp44 v41.1.Arena.Slots, RE.rd (Kd.slice k_Handle) A46 cp47 v41.1.Kids]) => ?_))
 refine RL_pure (by exact wn0 rfl) (by rfl) (by rfl) (x_assign (v := .int .i64 v41.2) (by rfl)) ?_
 refine RL_nil ?_
 refine W_seq ?_
 refine W_region ?_
 refine RL_pure (by exact wn0 rfl) (by rfl) (by rfl) (x_loadA (j := 0) (vs := [.slice A4 v2.1.Arena.Slots.length cp5, .slice A7 v2.1.Kids.length cp8]) ag79 (by rfl) (H.cells (i := 0) (by rfl)) (by rfl) (by rfl)) ?_
 refine RL_pure (by exact wn0 rfl) (by rfl) (by rfl) (x_indexArr ar82 sz81 (by rfl) (by rfl) (by decide) (by decide)) ?_
 refine RL_pure (by exact wn0 rfl) (by rfl) (by rfl) (x_loadA (j := 0) (vs := [.int .i64 v2.2.1.a0.Slot, .int .i64 v2.2.1.a0.Gen]) ag81 (by rfl) (H.cells (i := 1) (by rfl)) (by rfl) (by rfl)) ?_
 refine RL_pure (by exact wn0 rfl) (by rfl) (by rfl) (x_indexArr ar82 sz81 (by rfl) (by rfl) (by decide) (by decide)) ?_
 refine RL_pure (by exact wn0 rfl) (by rfl) (by rfl) (x_loadA (j := 4) (vs := [.int .i64 v2.2.1.a2.Slot, .int .i64 v2.2.1.a2.Gen]) ag81 (by rfl) (H.cells (i := 1) (by rfl)) (by rfl) (by rfl)) ?_
 obtain ⟨v53, hv52, hm⟩ := bind_some hm
 refine RL_cons (O_call (by exact wn0 rfl) (by rfl) (by rfl) (x_callL (by rfl) (args := [.agg #[.slice A4 v2.1.Arena.Slots.length cp5, .slice A7 v2.1.Kids.length cp8], .agg #[.int .i64 v2.2.1.a0.Slot, .int .i64 v2.2.1.a0.Gen], .agg #[.int .i64 v2.2.1.a2.Slot, .int .i64 v2.2.1.a2.Gen], .int .i64 1]) (by rfl) (cf38 _ _)) (c38 (okS ok w [.blk b10 79 [.slice A4 v2.1.Arena.Slots.length cp5, .slice A7 v2.1.Kids.length cp8], .blk b12 82 [.int .i64 v2.2.1.a0.Slot, .int .i64 v2.2.1.a0.Gen, .int .i64 v2.2.1.a1.Slot, .int .i64 v2.2.1.a1.Gen, .int .i64 v2.2.1.a2.Slot, .int .i64 v2.2.1.a2.Gen], .blk b25 79 [.slice A19 v17.1.Arena.Slots.length cp20, .slice A22 v17.1.Kids.length cp23], .blk b37 79 [.slice A31 v29.1.Arena.Slots.length cp32, .slice A34 v29.1.Kids.length cp35], .blk b49 79 [.slice A43 v41.1.Arena.Slots.length cp44, .slice A46 v41.1.Kids.length cp47]]) K w51 v2.1 A4 cp5 A7 cp8 v2.2.1.a0 v2.2.1.a2 1 (H.rd (i := 0) (by rfl)) (H.rd (i := 1) (by rfl)) v53 hv52) ?_)
 rintro e w54 ⟨A55, cp56, A58, cp59, rfl, H2⟩
 have H : Sep ok w w54 [.blk b10 79 [.slice A4 v2.1.Arena.Slots.length cp5, .slice A7 v2.1.Kids.length cp8], .blk b12 82 [.int .i64 v2.2.1.a0.Slot, .int .i64 v2.2.1.a0.Gen, .int .i64 v2.2.1.a1.Slot, .int .i64 v2.2.1.a1.Gen, .int .i64 v2.2.1.a2.Slot, .int .i64 v2.2.1.a2.Gen], .blk b25 79 [.slice A19 v17.1.Arena.Slots.length cp20, .slice A22 v17.1.Kids.length cp23], .blk b37 79 [.slice A31 v29.1.Arena.Slots.length cp32, .slice A34 v29.1.Kids.length cp35], .blk b49 79 [.slice A43 v41.1.Arena.Slots.length cp44, .slice A46 v41.1.Kids.length cp47]] [RE.rd k_Slot A4 cp5 v2.1.Arena.Slots, RE.rd (Kd.slice k_Handle) A7 cp8 v2.1.Kids, RE.rd k_Slot A19 cp20 v17.1.Arena.Slots, RE.rd (Kd.slice k_Handle) A22 cp23 v17.1.Kids, RE.rd k_Slot A31 cp32 v29.1.Arena.Slots, RE.rd (Kd.slice k_Handle) A34 cp35 v29.1.Kids, RE.rd k_Slot A43 cp44 v41.1.Arena.Slots, RE.rd (Kd.slice k_Handle) A46 cp47 v41.1.Kids, RE.rd k_Slot A55 cp56 v53.1.Arena.Slots, RE.rd (Kd.slice k_Handle) A58 cp59 v53.1.Kids] := H.call H2
 clear H2
 refine ⟨_, rfl, ?_⟩
 show RL _ _ _ _ _ _ _
 refine RL_pure (by exact wn0 rfl) (by rfl) (by rfl) (x_move (v := tup [.agg #[.slice A55 v53.1.Arena.Slots.length cp56, .slice A58 v53.1.Kids.length cp59], .int .i64 v53.2]) (by rfl)) ?_
 refine RL_pure (by exact wn0 rfl) (by rfl) (by rfl) (x_extract (v := .agg #[.slice A55 v53.1.Arena.Slots.length cp56, .slice A58 v53.1.Kids.length cp59]) (by rfl) (by rfl)) ?_
 refine RL_pure (by exact wn0 rfl) (by rfl) (by rfl) (x_extract (v := .int .i64 v53.2) (by rfl) (by rfl)) ?_
 refine RL_cons (O_alloc (by exact wn0 rfl) (by rfl) ze79 (by rfl) H (fun w62 b61 (H : Sep ok w w62 [.blk b10 79 [.slice A4 v2.1.Arena.Slots.length cp5, .slice A7 v2.1.Kids.length cp8], .blk b12 82 [.int .i64 v2.2.1.a0.Slot, .int .i64 v2.2.1.a0.Gen, .int .i64 v2.2.1.a1.Slot, .int .i64 v2.2.1.a1.Gen, .int .i64 v2.2.1.a2.Slot, .int .i64 v2.2.1.a2.Gen], .blk b25 79 [.slice A19 v17.1.Arena.Slots.length cp20, .slice A22 v17.1.Kids.length cp23], .blk b37 79 [.slice A31 v29.1.Arena.Slots.length cp32, .slice A34 v29.1.Kids.length cp35], .blk b49 79 [.slice A43 v41.1.Arena.Slots.length cp44, .slice A46 v41.1.Kids.length cp47], .blk b61 79 [.slice none 0 0, .slice none 0 0]] [RE.rd k_Slot A4 cp5 v2.1.Arena.Slots, RE.rd (Kd.slice k_Handle) A7 cp8 v2.1.Kids, RE.rd k_Slot A19 cp20 v17.1.Arena.Slots, RE.rd (Kd.slice k_Handle) A22 cp23 v17.1.Kids, RE.rd k_Slot A31 cp32 v29.1.Arena.Slots, RE.rd (Kd.slice k_Handle) A34 cp35 v29.1.Kids, RE.rd k_Slot A43 cp44 v41.1.Arena.Slots, RE.rd (Kd.slice k_Handle) A46 cp47 v41.1.Kids, RE.rd k_Slot A55 cp56 v53.1.Arena.Slots, RE.rd (Kd.slice k_Handle) A58 cp59 v53.1.Kids]) => ?_))
 refine RL_cons (O_store (i := 5) (off := 0) (by exact wn0 rfl) (by rfl) (by rfl) H (by rfl) (vs := [.slice A55 v53.1.Arena.Slots.length cp56, .slice A58 v53.1.Kids.length cp59]) (by rfl) sz79 (by rfl) (by rfl) (by rfl) (fun w63 (H : Sep ok w w63 [.blk b10 79 [.slice A4 v2.1.Arena.Slots.length cp5, .slice A7 v2.1.Kids.length cp8], .blk b12 82 [.int .i64 v2.2.1.a0.Slot, .int .i64 v2.2.1.a0.Gen, .int .i64 v2.2.1.a1.Slot, .int .i64 v2.2.1.a1.Gen, .int .i64 v2.2.1.a2.Slot, .int .i64 v2.2.1.a2.Gen], .blk b25 79 [.slice A19 v17.1.Arena.Slots.length cp20, .slice A22 v17.1.Kids.length cp23], .blk b37 79 [.slice A31 v29.1.Arena.Slots.length cp32, .slice A34 v29.1.Kids.length cp35], .blk b49 79 [.slice A43 v41.1.Arena.Slots.length cp44, .slice A46 v41.1.Kids.length cp47], .blk b61 79 [.slice A55 v53.1.Arena.Slots.length cp56, .slice A58 v53.1.Kids.length cp59]] [RE.rd k_Slot A4 cp5 v2.1.Arena.Slots, RE.rd (Kd.slice k_Handle) A7 cp8 v2.1.Kids, RE.rd k_Slot A19 cp20 v17.1.Arena.Slots, RE.rd (Kd.slice k_Handle) A22 cp23 v17.1.Kids, RE.rd k_Slot A31 cp32 v29.1.Arena.Slots, RE.rd (Kd.slice k_Handle) A34 cp35 v29.1.Kids, RE.rd k_Slot A43 cp44 v41.1.Arena.Slots, RE.rd (Kd.slice k_Handle) A46 cp47 v41.1.Kids, RE.rd k_Slot A55 cp56 v53.1.Arena.Slots, RE.rd (Kd.slice k_Handle) A58 cp59 v53.1.Kids]) => ?_))
 refine RL_pure (by exact wn0 rfl) (by rfl) (by rfl) (x_assign (v := .int .i64 v53.2) (by rfl)) ?_
 refine RL_nil ?_
 refine W_seq ?_
 refine W_region ?_
 refine RL_pure (by exact wn0 rfl) (by rfl) (by rfl) (x_loadA (j := 0) (vs := [.slice A55 v53.1.Arena.Slots.length cp56, .slice A58 v53.1.Kids.length cp59]) ag79 (by rfl) (H.cells (i := 5) (by rfl)) (by rfl) (by rfl)) ?_
 refine RL_pure (by exact wn0 rfl) (by rfl) (by rfl) (x_indexArr ar82 sz81 (by rfl) (by rfl) (by decide) (by decide)) ?_
 refine RL_pure (by exact wn0 rfl) (by rfl) (by rfl) (x_loadA (j := 0) (vs := [.int .i64 v2.2.1.a0.Slot, .int .i64 v2.2.1.a0.Gen]) ag81 (by rfl) (H.cells (i := 1) (by rfl)) (by rfl) (by rfl)) ?_
 obtain ⟨v65, hv64, hm⟩ := bind_some hm
 refine RL_cons (O_call (by exact wn0 rfl) (by rfl) (by rfl) (x_callL (by rfl) (args := [.agg #[.slice A55 v53.1.Arena.Slots.length cp56, .slice A58 v53.1.Kids.length cp59], .agg #[.int .i64 v2.2.1.a0.Slot, .int .i64 v2.2.1.a0.Gen]]) (by rfl) (cf39 _ _)) (c39 (okS ok w [.blk b10 79 [.slice A4 v2.1.Arena.Slots.length cp5, .slice A7 v2.1.Kids.length cp8], .blk b12 82 [.int .i64 v2.2.1.a0.Slot, .int .i64 v2.2.1.a0.Gen, .int .i64 v2.2.1.a1.Slot, .int .i64 v2.2.1.a1.Gen, .int .i64 v2.2.1.a2.Slot, .int .i64 v2.2.1.a2.Gen], .blk b25 79 [.slice A19 v17.1.Arena.Slots.length cp20, .slice A22 v17.1.Kids.length cp23], .blk b37 79 [.slice A31 v29.1.Arena.Slots.length cp32, .slice A34 v29.1.Kids.length cp35], .blk b49 79 [.slice A43 v41.1.Arena.Slots.length cp44, .slice A46 v41.1.Kids.length cp47], .blk b61 79 [.slice A55 v53.1.Arena.Slots.length cp56, .slice A58 v53.1.Kids.length cp59]]) K w63 v53.1 A55 cp56 A58 cp59 v2.2.1.a0 (H.rd (i := 8) (by rfl)) (H.rd (i := 9) (by rfl)) v65 hv64) ?_)
 rintro e w66 ⟨A67, cp68, rfl, H2⟩
 have H : Sep ok w w66 [.blk b10 79 [.slice A4 v2.1.Arena.Slots.length cp5, .slice A7 v2.1.Kids.length cp8], .blk b12 82 [.int .i64 v2.2.1.a0.Slot, .int .i64 v2.2.1.a0.Gen, .int .i64 v2.2.1.a1.Slot, .int .i64 v2.2.1.a1.Gen, .int .i64 v2.2.1.a2.Slot, .int .i64 v2.2.1.a2.Gen], .blk b25 79 [.slice A19 v17.1.Arena.Slots.length cp20, .slice A22 v17.1.Kids.length cp23], .blk b37 79 [.slice A31 v29.1.Arena.Slots.length cp32, .slice A34 v29.1.Kids.length cp35], .blk b49 79 [.slice A43 v41.1.Arena.Slots.length cp44, .slice A46 v41.1.Kids.length cp47], .blk b61 79 [.slice A55 v53.1.Arena.Slots.length cp56, .slice A58 v53.1.Kids.length cp59]] [RE.rd k_Slot A4 cp5 v2.1.Arena.Slots, RE.rd (Kd.slice k_Handle) A7 cp8 v2.1.Kids, RE.rd k_Slot A19 cp20 v17.1.Arena.Slots, RE.rd (Kd.slice k_Handle) A22 cp23 v17.1.Kids, RE.rd k_Slot A31 cp32 v29.1.Arena.Slots, RE.rd (Kd.slice k_Handle) A34 cp35 v29.1.Kids, RE.rd k_Slot A43 cp44 v41.1.Arena.Slots, RE.rd (Kd.slice k_Handle) A46 cp47 v41.1.Kids, RE.rd k_Slot A55 cp56 v53.1.Arena.Slots, RE.rd (Kd.slice k_Handle) A58 cp59 v53.1.Kids, RE.rd k_Handle A67 cp68 v65.1] := H.call H2
 clear H2
 refine ⟨_, rfl, ?_⟩
 show RL _ _ _ _ _ _ _
 refine RL_pure (by exact wn0 rfl) (by rfl) (by rfl) (x_move (v := tup [.slice A67 v65.1.length cp68, .int .i64 v65.2]) (by rfl)) ?_
 refine RL_pure (by exact wn0 rfl) (by rfl) (by rfl) (x_extract (v := .slice A67 v65.1.length cp68) (by rfl) (by rfl)) ?_
 refine RL_pure (by exact wn0 rfl) (by rfl) (by rfl) (x_extract (v := .int .i64 v65.2) (by rfl) (by rfl)) ?_
 refine RL_pure (by exact wn0 rfl) (by rfl) (by rfl) (x_assign (v := .slice A67 v65.1.length cp68) (by rfl)) ?_
 refine RL_pure (by exact wn0 rfl) (by rfl) (by rfl) (x_assign (v := .int .i64 v65.2) (by rfl)) ?_
 refine RL_nil ?_
 refine W_seq ?_
 refine W_region ?_
 refine RL_pure (by exact wn0 rfl) (by rfl) (by rfl) (x_loadA (j := 0) (vs := [.slice A4 v2.1.Arena.Slots.length cp5, .slice A7 v2.1.Kids.length cp8]) ag79 (by rfl) (H.cells (i := 0) (by rfl)) (by rfl) (by rfl)) ?_
 refine RL_pure (by exact wn0 rfl) (by rfl) (by rfl) (x_indexArr ar82 sz81 (by rfl) (by rfl) (by decide) (by decide)) ?_
 refine RL_pure (by exact wn0 rfl) (by rfl) (by rfl) (x_loadA (j := 2) (vs := [.int .i64 v2.2.1.a1.Slot, .int .i64 v2.2.1.a1.Gen]) ag81 (by rfl) (H.cells (i := 1) (by rfl)) (by rfl) (by rfl)) ?_
 obtain ⟨v71, hv70, hm⟩ := bind_some hm
 refine RL_cons (O_call (by exact wn0 rfl) (by rfl) (by rfl) (x_callL (by rfl) (args := [.agg #[.slice A4 v2.1.Arena.Slots.length cp5, .slice A7 v2.1.Kids.length cp8], .agg #[.int .i64 v2.2.1.a1.Slot, .int .i64 v2.2.1.a1.Gen]]) (by rfl) (cf40 _ _)) (c40 (okS ok w [.blk b10 79 [.slice A4 v2.1.Arena.Slots.length cp5, .slice A7 v2.1.Kids.length cp8], .blk b12 82 [.int .i64 v2.2.1.a0.Slot, .int .i64 v2.2.1.a0.Gen, .int .i64 v2.2.1.a1.Slot, .int .i64 v2.2.1.a1.Gen, .int .i64 v2.2.1.a2.Slot, .int .i64 v2.2.1.a2.Gen], .blk b25 79 [.slice A19 v17.1.Arena.Slots.length cp20, .slice A22 v17.1.Kids.length cp23], .blk b37 79 [.slice A31 v29.1.Arena.Slots.length cp32, .slice A34 v29.1.Kids.length cp35], .blk b49 79 [.slice A43 v41.1.Arena.Slots.length cp44, .slice A46 v41.1.Kids.length cp47], .blk b61 79 [.slice A55 v53.1.Arena.Slots.length cp56, .slice A58 v53.1.Kids.length cp59]]) K w66 v2.1 A4 cp5 A7 cp8 v2.2.1.a1 (H.rd (i := 0) (by rfl)) (H.rd (i := 1) (by rfl)) v71 hv70) ?_)
 rintro e w72 ⟨A73, cp74, A76, cp77, rfl, H2⟩
 have H : Sep ok w w72 [.blk b10 79 [.slice A4 v2.1.Arena.Slots.length cp5, .slice A7 v2.1.Kids.length cp8], .blk b12 82 [.int .i64 v2.2.1.a0.Slot, .int .i64 v2.2.1.a0.Gen, .int .i64 v2.2.1.a1.Slot, .int .i64 v2.2.1.a1.Gen, .int .i64 v2.2.1.a2.Slot, .int .i64 v2.2.1.a2.Gen], .blk b25 79 [.slice A19 v17.1.Arena.Slots.length cp20, .slice A22 v17.1.Kids.length cp23], .blk b37 79 [.slice A31 v29.1.Arena.Slots.length cp32, .slice A34 v29.1.Kids.length cp35], .blk b49 79 [.slice A43 v41.1.Arena.Slots.length cp44, .slice A46 v41.1.Kids.length cp47], .blk b61 79 [.slice A55 v53.1.Arena.Slots.length cp56, .slice A58 v53.1.Kids.length cp59]] [RE.rd k_Slot A4 cp5 v2.1.Arena.Slots, RE.rd (Kd.slice k_Handle) A7 cp8 v2.1.Kids, RE.rd k_Slot A19 cp20 v17.1.Arena.Slots, RE.rd (Kd.slice k_Handle) A22 cp23 v17.1.Kids, RE.rd k_Slot A31 cp32 v29.1.Arena.Slots, RE.rd (Kd.slice k_Handle) A34 cp35 v29.1.Kids, RE.rd k_Slot A43 cp44 v41.1.Arena.Slots, RE.rd (Kd.slice k_Handle) A46 cp47 v41.1.Kids, RE.rd k_Slot A55 cp56 v53.1.Arena.Slots, RE.rd (Kd.slice k_Handle) A58 cp59 v53.1.Kids, RE.rd k_Handle A67 cp68 v65.1, RE.rd k_Slot A73 cp74 v71.1.Arena.Slots, RE.rd (Kd.slice k_Handle) A76 cp77 v71.1.Kids] := H.call H2
 clear H2
 refine ⟨_, rfl, ?_⟩
 show RL _ _ _ _ _ _ _
 refine RL_pure (by exact wn0 rfl) (by rfl) (by rfl) (x_move (v := tup [.agg #[.slice A73 v71.1.Arena.Slots.length cp74, .slice A76 v71.1.Kids.length cp77], .int .i64 v71.2]) (by rfl)) ?_
 refine RL_pure (by exact wn0 rfl) (by rfl) (by rfl) (x_extract (v := .agg #[.slice A73 v71.1.Arena.Slots.length cp74, .slice A76 v71.1.Kids.length cp77]) (by rfl) (by rfl)) ?_
 refine RL_pure (by exact wn0 rfl) (by rfl) (by rfl) (x_extract (v := .int .i64 v71.2) (by rfl) (by rfl)) ?_
 refine RL_cons (O_alloc (by exact wn0 rfl) (by rfl) ze79 (by rfl) H (fun w80 b79 (H : Sep ok w w80 [.blk b10 79 [.slice A4 v2.1.Arena.Slots.length cp5, .slice A7 v2.1.Kids.length cp8], .blk b12 82 [.int .i64 v2.2.1.a0.Slot, .int .i64 v2.2.1.a0.Gen, .int .i64 v2.2.1.a1.Slot, .int .i64 v2.2.1.a1.Gen, .int .i64 v2.2.1.a2.Slot, .int .i64 v2.2.1.a2.Gen], .blk b25 79 [.slice A19 v17.1.Arena.Slots.length cp20, .slice A22 v17.1.Kids.length cp23], .blk b37 79 [.slice A31 v29.1.Arena.Slots.length cp32, .slice A34 v29.1.Kids.length cp35], .blk b49 79 [.slice A43 v41.1.Arena.Slots.length cp44, .slice A46 v41.1.Kids.length cp47], .blk b61 79 [.slice A55 v53.1.Arena.Slots.length cp56, .slice A58 v53.1.Kids.length cp59], .blk b79 79 [.slice none 0 0, .slice none 0 0]] [RE.rd k_Slot A4 cp5 v2.1.Arena.Slots, RE.rd (Kd.slice k_Handle) A7 cp8 v2.1.Kids, RE.rd k_Slot A19 cp20 v17.1.Arena.Slots, RE.rd (Kd.slice k_Handle) A22 cp23 v17.1.Kids, RE.rd k_Slot A31 cp32 v29.1.Arena.Slots, RE.rd (Kd.slice k_Handle) A34 cp35 v29.1.Kids, RE.rd k_Slot A43 cp44 v41.1.Arena.Slots, RE.rd (Kd.slice k_Handle) A46 cp47 v41.1.Kids, RE.rd k_Slot A55 cp56 v53.1.Arena.Slots, RE.rd (Kd.slice k_Handle) A58 cp59 v53.1.Kids, RE.rd k_Handle A67 cp68 v65.1, RE.rd k_Slot A73 cp74 v71.1.Arena.Slots, RE.rd (Kd.slice k_Handle) A76 cp77 v71.1.Kids]) => ?_))
 refine RL_cons (O_store (i := 6) (off := 0) (by exact wn0 rfl) (by rfl) (by rfl) H (by rfl) (vs := [.slice A73 v71.1.Arena.Slots.length cp74, .slice A76 v71.1.Kids.length cp77]) (by rfl) sz79 (by rfl) (by rfl) (by rfl) (fun w81 (H : Sep ok w w81 [.blk b10 79 [.slice A4 v2.1.Arena.Slots.length cp5, .slice A7 v2.1.Kids.length cp8], .blk b12 82 [.int .i64 v2.2.1.a0.Slot, .int .i64 v2.2.1.a0.Gen, .int .i64 v2.2.1.a1.Slot, .int .i64 v2.2.1.a1.Gen, .int .i64 v2.2.1.a2.Slot, .int .i64 v2.2.1.a2.Gen], .blk b25 79 [.slice A19 v17.1.Arena.Slots.length cp20, .slice A22 v17.1.Kids.length cp23], .blk b37 79 [.slice A31 v29.1.Arena.Slots.length cp32, .slice A34 v29.1.Kids.length cp35], .blk b49 79 [.slice A43 v41.1.Arena.Slots.length cp44, .slice A46 v41.1.Kids.length cp47], .blk b61 79 [.slice A55 v53.1.Arena.Slots.length cp56, .slice A58 v53.1.Kids.length cp59], .blk b79 79 [.slice A73 v71.1.Arena.Slots.length cp74, .slice A76 v71.1.Kids.length cp77]] [RE.rd k_Slot A4 cp5 v2.1.Arena.Slots, RE.rd (Kd.slice k_Handle) A7 cp8 v2.1.Kids, RE.rd k_Slot A19 cp20 v17.1.Arena.Slots, RE.rd (Kd.slice k_Handle) A22 cp23 v17.1.Kids, RE.rd k_Slot A31 cp32 v29.1.Arena.Slots, RE.rd (Kd.slice k_Handle) A34 cp35 v29.1.Kids, RE.rd k_Slot A43 cp44 v41.1.Arena.Slots, RE.rd (Kd.slice k_Handle) A46 cp47 v41.1.Kids, RE.rd k_Slot A55 cp56 v53.1.Arena.Slots, RE.rd (Kd.slice k_Handle) A58 cp59 v53.1.Kids, RE.rd k_Handle A67 cp68 v65.1, RE.rd k_Slot A73 cp74 v71.1.Arena.Slots, RE.rd (Kd.slice k_Handle) A76 cp77 v71.1.Kids]) => ?_))
 refine RL_pure (by exact wn0 rfl) (by rfl) (by rfl) (x_assign (v := .int .i64 v71.2) (by rfl)) ?_
 refine RL_nil ?_
 refine W_seq ?_
 refine W_region ?_
 refine RL_pure (by exact wn0 rfl) (by rfl) (by rfl) (x_loadA (j := 0) (vs := [.slice A73 v71.1.Arena.Slots.length cp74, .slice A76 v71.1.Kids.length cp77]) ag79 (by rfl) (H.cells (i := 6) (by rfl)) (by rfl) (by rfl)) ?_
 refine RL_pure (by exact wn0 rfl) (by rfl) (by rfl) (x_indexArr ar82 sz81 (by rfl) (by rfl) (by decide) (by decide)) ?_
 refine RL_pure (by exact wn0 rfl) (by rfl) (by rfl) (x_loadA (j := 0) (vs := [.int .i64 v2.2.1.a0.Slot, .int .i64 v2.2.1.a0.Gen]) ag81 (by rfl) (H.cells (i := 1) (by rfl)) (by rfl) (by rfl)) ?_
 obtain ⟨v83, hv82, hm⟩ := bind_some hm
 refine RL_cons (O_call (by exact wn0 rfl) (by rfl) (by rfl) (x_callL (by rfl) (args := [.agg #[.slice A73 v71.1.Arena.Slots.length cp74, .slice A76 v71.1.Kids.length cp77], .agg #[.int .i64 v2.2.1.a0.Slot, .int .i64 v2.2.1.a0.Gen]]) (by rfl) (cf39 _ _)) (c39 (okS ok w [.blk b10 79 [.slice A4 v2.1.Arena.Slots.length cp5, .slice A7 v2.1.Kids.length cp8], .blk b12 82 [.int .i64 v2.2.1.a0.Slot, .int .i64 v2.2.1.a0.Gen, .int .i64 v2.2.1.a1.Slot, .int .i64 v2.2.1.a1.Gen, .int .i64 v2.2.1.a2.Slot, .int .i64 v2.2.1.a2.Gen], .blk b25 79 [.slice A19 v17.1.Arena.Slots.length cp20, .slice A22 v17.1.Kids.length cp23], .blk b37 79 [.slice A31 v29.1.Arena.Slots.length cp32, .slice A34 v29.1.Kids.length cp35], .blk b49 79 [.slice A43 v41.1.Arena.Slots.length cp44, .slice A46 v41.1.Kids.length cp47], .blk b61 79 [.slice A55 v53.1.Arena.Slots.length cp56, .slice A58 v53.1.Kids.length cp59], .blk b79 79 [.slice A73 v71.1.Arena.Slots.length cp74, .slice A76 v71.1.Kids.length cp77]]) K w81 v71.1 A73 cp74 A76 cp77 v2.2.1.a0 (H.rd (i := 11) (by rfl)) (H.rd (i := 12) (by rfl)) v83 hv82) ?_)
 rintro e w84 ⟨A85, cp86, rfl, H2⟩
 have H : Sep ok w w84 [.blk b10 79 [.slice A4 v2.1.Arena.Slots.length cp5, .slice A7 v2.1.Kids.length cp8], .blk b12 82 [.int .i64 v2.2.1.a0.Slot, .int .i64 v2.2.1.a0.Gen, .int .i64 v2.2.1.a1.Slot, .int .i64 v2.2.1.a1.Gen, .int .i64 v2.2.1.a2.Slot, .int .i64 v2.2.1.a2.Gen], .blk b25 79 [.slice A19 v17.1.Arena.Slots.length cp20, .slice A22 v17.1.Kids.length cp23], .blk b37 79 [.slice A31 v29.1.Arena.Slots.length cp32, .slice A34 v29.1.Kids.length cp35], .blk b49 79 [.slice A43 v41.1.Arena.Slots.length cp44, .slice A46 v41.1.Kids.length cp47], .blk b61 79 [.slice A55 v53.1.Arena.Slots.length cp56, .slice A58 v53.1.Kids.length cp59], .blk b79 79 [.slice A73 v71.1.Arena.Slots.length cp74, .slice A76 v71.1.Kids.length cp77]] [RE.rd k_Slot A4 cp5 v2.1.Arena.Slots, RE.rd (Kd.slice k_Handle) A7 cp8 v2.1.Kids, RE.rd k_Slot A19 cp20 v17.1.Arena.Slots, RE.rd (Kd.slice k_Handle) A22 cp23 v17.1.Kids, RE.rd k_Slot A31 cp32 v29.1.Arena.Slots, RE.rd (Kd.slice k_Handle) A34 cp35 v29.1.Kids, RE.rd k_Slot A43 cp44 v41.1.Arena.Slots, RE.rd (Kd.slice k_Handle) A46 cp47 v41.1.Kids, RE.rd k_Slot A55 cp56 v53.1.Arena.Slots, RE.rd (Kd.slice k_Handle) A58 cp59 v53.1.Kids, RE.rd k_Handle A67 cp68 v65.1, RE.rd k_Slot A73 cp74 v71.1.Arena.Slots, RE.rd (Kd.slice k_Handle) A76 cp77 v71.1.Kids, RE.rd k_Handle A85 cp86 v83.1] := H.call H2
 clear H2
 refine ⟨_, rfl, ?_⟩
 show RL _ _ _ _ _ _ _
 refine RL_pure (by exact wn0 rfl) (by rfl) (by rfl) (x_move (v := tup [.slice A85 v83.1.length cp86, .int .i64 v83.2]) (by rfl)) ?_
 refine RL_pure (by exact wn0 rfl) (by rfl) (by rfl) (x_extract (v := .slice A85 v83.1.length cp86) (by rfl) (by rfl)) ?_
 refine RL_pure (by exact wn0 rfl) (by rfl) (by rfl) (x_extract (v := .int .i64 v83.2) (by rfl) (by rfl)) ?_
 refine RL_pure (by exact wn0 rfl) (by rfl) (by rfl) (x_assign (v := .slice A85 v83.1.length cp86) (by rfl)) ?_
 refine RL_pure (by exact wn0 rfl) (by rfl) (by rfl) (x_assign (v := .int .i64 v83.2) (by rfl)) ?_
 refine RL_nil ?_
 refine W_seq ?_
 refine W_region ?_
 refine RL_pure (by exact wn0 rfl) (by rfl) (by rfl) (x_loadA (j := 0) (vs := [.slice A73 v71.1.Arena.Slots.length cp74, .slice A76 v71.1.Kids.length cp77]) ag79 (by rfl) (H.cells (i := 6) (by rfl)) (by rfl) (by rfl)) ?_
 refine RL_pure (by exact wn0 rfl) (by rfl) (by rfl) (x_indexArr ar82 sz81 (by rfl) (by rfl) (by decide) (by decide)) ?_
 refine RL_pure (by exact wn0 rfl) (by rfl) (by rfl) (x_loadA (j := 2) (vs := [.int .i64 v2.2.1.a1.Slot, .int .i64 v2.2.1.a1.Gen]) ag81 (by rfl) (H.cells (i := 1) (by rfl)) (by rfl) (by rfl)) ?_
 obtain ⟨v89, hv88, hm⟩ := bind_some hm
 refine RL_cons (O_call (by exact wn0 rfl) (by rfl) (by rfl) (x_callL (by rfl) (args := [.agg #[.slice A73 v71.1.Arena.Slots.length cp74, .slice A76 v71.1.Kids.length cp77], .agg #[.int .i64 v2.2.1.a1.Slot, .int .i64 v2.2.1.a1.Gen]]) (by rfl) (cf39 _ _)) (c39 (okS ok w [.blk b10 79 [.slice A4 v2.1.Arena.Slots.length cp5, .slice A7 v2.1.Kids.length cp8], .blk b12 82 [.int .i64 v2.2.1.a0.Slot, .int .i64 v2.2.1.a0.Gen, .int .i64 v2.2.1.a1.Slot, .int .i64 v2.2.1.a1.Gen, .int .i64 v2.2.1.a2.Slot, .int .i64 v2.2.1.a2.Gen], .blk b25 79 [.slice A19 v17.1.Arena.Slots.length cp20, .slice A22 v17.1.Kids.length cp23], .blk b37 79 [.slice A31 v29.1.Arena.Slots.length cp32, .slice A34 v29.1.Kids.length cp35], .blk b49 79 [.slice A43 v41.1.Arena.Slots.length cp44, .slice A46 v41.1.Kids.length cp47], .blk b61 79 [.slice A55 v53.1.Arena.Slots.length cp56, .slice A58 v53.1.Kids.length cp59], .blk b79 79 [.slice A73 v71.1.Arena.Slots.length cp74, .slice A76 v71.1.Kids.length cp77]]) K w84 v71.1 A73 cp74 A76 cp77 v2.2.1.a1 (H.rd (i := 11) (by rfl)) (H.rd (i := 12) (by rfl)) v89 hv88) ?_)
 rintro e w90 ⟨A91, cp92, rfl, H2⟩
 have H : Sep ok w w90 [.blk b10 79 [.slice A4 v2.1.Arena.Slots.length cp5, .slice A7 v2.1.Kids.length cp8], .blk b12 82 [.int .i64 v2.2.1.a0.Slot, .int .i64 v2.2.1.a0.Gen, .int .i64 v2.2.1.a1.Slot, .int .i64 v2.2.1.a1.Gen, .int .i64 v2.2.1.a2.Slot, .int .i64 v2.2.1.a2.Gen], .blk b25 79 [.slice A19 v17.1.Arena.Slots.length cp20, .slice A22 v17.1.Kids.length cp23], .blk b37 79 [.slice A31 v29.1.Arena.Slots.length cp32, .slice A34 v29.1.Kids.length cp35], .blk b49 79 [.slice A43 v41.1.Arena.Slots.length cp44, .slice A46 v41.1.Kids.length cp47], .blk b61 79 [.slice A55 v53.1.Arena.Slots.length cp56, .slice A58 v53.1.Kids.length cp59], .blk b79 79 [.slice A73 v71.1.Arena.Slots.length cp74, .slice A76 v71.1.Kids.length cp77]] [RE.rd k_Slot A4 cp5 v2.1.Arena.Slots, RE.rd (Kd.slice k_Handle) A7 cp8 v2.1.Kids, RE.rd k_Slot A19 cp20 v17.1.Arena.Slots, RE.rd (Kd.slice k_Handle) A22 cp23 v17.1.Kids, RE.rd k_Slot A31 cp32 v29.1.Arena.Slots, RE.rd (Kd.slice k_Handle) A34 cp35 v29.1.Kids, RE.rd k_Slot A43 cp44 v41.1.Arena.Slots, RE.rd (Kd.slice k_Handle) A46 cp47 v41.1.Kids, RE.rd k_Slot A55 cp56 v53.1.Arena.Slots, RE.rd (Kd.slice k_Handle) A58 cp59 v53.1.Kids, RE.rd k_Handle A67 cp68 v65.1, RE.rd k_Slot A73 cp74 v71.1.Arena.Slots, RE.rd (Kd.slice k_Handle) A76 cp77 v71.1.Kids, RE.rd k_Handle A85 cp86 v83.1, RE.rd k_Handle A91 cp92 v89.1] := H.call H2
 clear H2
 refine ⟨_, rfl, ?_⟩
 show RL _ _ _ _ _ _ _
 refine RL_pure (by exact wn0 rfl) (by rfl) (by rfl) (x_move (v := tup [.slice A91 v89.1.length cp92, .int .i64 v89.2]) (by rfl)) ?_
 refine RL_pure (by exact wn0 rfl) (by rfl) (by rfl) (x_extract (v := .slice A91 v89.1.length cp92) (by rfl) (by rfl)) ?_
 refine RL_pure (by exact wn0 rfl) (by rfl) (by rfl) (x_extract (v := .int .i64 v89.2) (by rfl) (by rfl)) ?_
 refine RL_pure (by exact wn0 rfl) (by rfl) (by rfl) (x_assign (v := .slice A91 v89.1.length cp92) (by rfl)) ?_
 refine RL_pure (by exact wn0 rfl) (by rfl) (by rfl) (x_assign (v := .int .i64 v89.2) (by rfl)) ?_
 refine RL_nil ?_
 refine W_seq ?_
 refine W_region ?_
 refine RL_pure (by exact wn0 rfl) (by rfl) (by rfl) (x_loadA (j := 0) (vs := [.slice A4 v2.1.Arena.Slots.length cp5, .slice A7 v2.1.Kids.length cp8]) ag79 (by rfl) (H.cells (i := 0) (by rfl)) (by rfl) (by rfl)) ?_
 refine RL_pure (by exact wn0 rfl) (by rfl) (by rfl) (x_indexArr ar82 sz81 (by rfl) (by rfl) (by decide) (by decide)) ?_
 refine RL_pure (by exact wn0 rfl) (by rfl) (by rfl) (x_loadA (j := 0) (vs := [.int .i64 v2.2.1.a0.Slot, .int .i64 v2.2.1.a0.Gen]) ag81 (by rfl) (H.cells (i := 1) (by rfl)) (by rfl) (by rfl)) ?_
 obtain ⟨v95, hv94, hm⟩ := bind_some hm
 refine RL_cons (O_call (by exact wn0 rfl) (by rfl) (by rfl) (x_callL (by rfl) (args := [.agg #[.slice A4 v2.1.Arena.Slots.length cp5, .slice A7 v2.1.Kids.length cp8], .agg #[.int .i64 v2.2.1.a0.Slot, .int .i64 v2.2.1.a0.Gen], .int .i64 2]) (by rfl) (cf41 _ _)) (c41 (okS ok w [.blk b10 79 [.slice A4 v2.1.Arena.Slots.length cp5, .slice A7 v2.1.Kids.length cp8], .blk b12 82 [.int .i64 v2.2.1.a0.Slot, .int .i64 v2.2.1.a0.Gen, .int .i64 v2.2.1.a1.Slot, .int .i64 v2.2.1.a1.Gen, .int .i64 v2.2.1.a2.Slot, .int .i64 v2.2.1.a2.Gen], .blk b25 79 [.slice A19 v17.1.Arena.Slots.length cp20, .slice A22 v17.1.Kids.length cp23], .blk b37 79 [.slice A31 v29.1.Arena.Slots.length cp32, .slice A34 v29.1.Kids.length cp35], .blk b49 79 [.slice A43 v41.1.Arena.Slots.length cp44, .slice A46 v41.1.Kids.length cp47], .blk b61 79 [.slice A55 v53.1.Arena.Slots.length cp56, .slice A58 v53.1.Kids.length cp59], .blk b79 79 [.slice A73 v71.1.Arena.Slots.length cp74, .slice A76 v71.1.Kids.length cp77]]) K w90 v2.1 A4 cp5 A7 cp8 v2.2.1.a0 2 (H.rd (i := 0) (by rfl)) (H.rd (i := 1) (by rfl)) v95 hv94) ?_)
 rintro e w96 ⟨A97, cp98, A100, cp101, rfl, H2⟩
 have H : Sep ok w w96 [.blk b10 79 [.slice A4 v2.1.Arena.Slots.length cp5, .slice A7 v2.1.Kids.length cp8], .blk b12 82 [.int .i64 v2.2.1.a0.Slot, .int .i64 v2.2.1.a0.Gen, .int .i64 v2.2.1.a1.Slot, .int .i64 v2.2.1.a1.Gen, .int .i64 v2.2.1.a2.Slot, .int .i64 v2.2.1.a2.Gen], .blk b25 79 [.slice A19 v17.1.Arena.Slots.length cp20, .slice A22 v17.1.Kids.length cp23], .blk b37 79 [.slice A31 v29.1.Arena.Slots.length cp32, .slice A34 v29.1.Kids.length cp35], .blk b49 79 [.slice A43 v41.1.Arena.Slots.length cp44, .slice A46 v41.1.Kids.length cp47], .blk b61 79 [.slice A55 v53.1.Arena.Slots.length cp56, .slice A58 v53.1.Kids.length cp59], .blk b79 79 [.slice A73 v71.1.Arena.Slots.length cp74, .slice A76 v71.1.Kids.length cp77]] [RE.rd k_Slot A4 cp5 v2.1.Arena.Slots, RE.rd (Kd.slice k_Handle) A7 cp8 v2.1.Kids, RE.rd k_Slot A19 cp20 v17.1.Arena.Slots, RE.rd (Kd.slice k_Handle) A22 cp23 v17.1.Kids, RE.rd k_Slot A31 cp32 v29.1.Arena.Slots, RE.rd (Kd.slice k_Handle) A34 cp35 v29.1.Kids, RE.rd k_Slot A43 cp44 v41.1.Arena.Slots, RE.rd (Kd.slice k_Handle) A46 cp47 v41.1.Kids, RE.rd k_Slot A55 cp56 v53.1.Arena.Slots, RE.rd (Kd.slice k_Handle) A58 cp59 v53.1.Kids, RE.rd k_Handle A67 cp68 v65.1, RE.rd k_Slot A73 cp74 v71.1.Arena.Slots, RE.rd (Kd.slice k_Handle) A76 cp77 v71.1.Kids, RE.rd k_Handle A85 cp86 v83.1, RE.rd k_Handle A91 cp92 v89.1, RE.rd k_Slot A97 cp98 v95.1.Arena.Slots, RE.rd (Kd.slice k_Handle) A100 cp101 v95.1.Kids] := H.call H2
 clear H2
 refine ⟨_, rfl, ?_⟩
 show RL _ _ _ _ _ _ _
 refine RL_pure (by exact wn0 rfl) (by rfl) (by rfl) (x_move (v := tup [.agg #[.slice A97 v95.1.Arena.Slots.length cp98, .slice A100 v95.1.Kids.length cp101], .int .i64 v95.2]) (by rfl)) ?_
 refine RL_pure (by exact wn0 rfl) (by rfl) (by rfl) (x_extract (v := .agg #[.slice A97 v95.1.Arena.Slots.length cp98, .slice A100 v95.1.Kids.length cp101]) (by rfl) (by rfl)) ?_
 refine RL_pure (by exact wn0 rfl) (by rfl) (by rfl) (x_extract (v := .int .i64 v95.2) (by rfl) (by rfl)) ?_
 refine RL_cons (O_alloc (by exact wn0 rfl) (by rfl) ze79 (by rfl) H (fun w104 b103 (H : Sep ok w w104 [.blk b10 79 [.slice A4 v2.1.Arena.Slots.length cp5, .slice A7 v2.1.Kids.length cp8], .blk b12 82 [.int .i64 v2.2.1.a0.Slot, .int .i64 v2.2.1.a0.Gen, .int .i64 v2.2.1.a1.Slot, .int .i64 v2.2.1.a1.Gen, .int .i64 v2.2.1.a2.Slot, .int .i64 v2.2.1.a2.Gen], .blk b25 79 [.slice A19 v17.1.Arena.Slots.length cp20, .slice A22 v17.1.Kids.length cp23], .blk b37 79 [.slice A31 v29.1.Arena.Slots.length cp32, .slice A34 v29.1.Kids.length cp35], .blk b49 79 [.slice A43 v41.1.Arena.Slots.length cp44, .slice A46 v41.1.Kids.length cp47], .blk b61 79 [.slice A55 v53.1.Arena.Slots.length cp56, .slice A58 v53.1.Kids.length cp59], .blk b79 79 [.slice A73 v71.1.Arena.Slots.length cp74, .slice A76 v71.1.Kids.length cp77], .blk b103 79 [.slice none 0 0, .slice none 0 0]] [RE.rd k_Slot A4 cp5 v2.1.Arena.Slots, RE.rd (Kd.slice k_Handle) A7 cp8 v2.1.Kids, RE.rd k_Slot A19 cp20 v17.1.Arena.Slots, RE.rd (Kd.slice k_Handle) A22 cp23 v17.1.Kids, RE.rd k_Slot A31 cp32 v29.1.Arena.Slots, RE.rd (Kd.slice k_Handle) A34 cp35 v29.1.Kids, RE.rd k_Slot A43 cp44 v41.1.Arena.Slots, RE.rd (Kd.slice k_Handle) A46 cp47 v41.1.Kids, RE.rd k_Slot A55 cp56 v53.1.Arena.Slots, RE.rd (Kd.slice k_Handle) A58 cp59 v53.1.Kids, RE.rd k_Handle A67 cp68 v65.1, RE.rd k_Slot A73 cp74 v71.1.Arena.Slots, RE.rd (Kd.slice k_Handle) A76 cp77 v71.1.Kids, RE.rd k_Handle A85 cp86 v83.1, RE.rd k_Handle A91 cp92 v89.1, RE.rd k_Slot A97 cp98 v95.1.Arena.Slots, RE.rd (Kd.slice k_Handle) A100 cp101 v95.1.Kids]) => ?_))
 refine RL_cons (O_store (i := 7) (off := 0) (by exact wn0 rfl) (by rfl) (by rfl) H (by rfl) (vs := [.slice A97 v95.1.Arena.Slots.length cp98, .slice A100 v95.1.Kids.length cp101]) (by rfl) sz79 (by rfl) (by rfl) (by rfl) (fun w105 (H : Sep ok w w105 [.blk b10 79 [.slice A4 v2.1.Arena.Slots.length cp5, .slice A7 v2.1.Kids.length cp8], .blk b12 82 [.int .i64 v2.2.1.a0.Slot, .int .i64 v2.2.1.a0.Gen, .int .i64 v2.2.1.a1.Slot, .int .i64 v2.2.1.a1.Gen, .int .i64 v2.2.1.a2.Slot, .int .i64 v2.2.1.a2.Gen], .blk b25 79 [.slice A19 v17.1.Arena.Slots.length cp20, .slice A22 v17.1.Kids.length cp23], .blk b37 79 [.slice A31 v29.1.Arena.Slots.length cp32, .slice A34 v29.1.Kids.length cp35], .blk b49 79 [.slice A43 v41.1.Arena.Slots.length cp44, .slice A46 v41.1.Kids.length cp47], .blk b61 79 [.slice A55 v53.1.Arena.Slots.length cp56, .slice A58 v53.1.Kids.length cp59], .blk b79 79 [.slice A73 v71.1.Arena.Slots.length cp74, .slice A76 v71.1.Kids.length cp77], .blk b103 79 [.slice A97 v95.1.Arena.Slots.length cp98, .slice A100 v95.1.Kids.length cp101]] [RE.rd k_Slot A4 cp5 v2.1.Arena.Slots, RE.rd (Kd.slice k_Handle) A7 cp8 v2.1.Kids, RE.rd k_Slot A19 cp20 v17.1.Arena.Slots, RE.rd (Kd.slice k_Handle) A22 cp23 v17.1.Kids, RE.rd k_Slot A31 cp32 v29.1.Arena.Slots, RE.rd (Kd.slice k_Handle) A34 cp35 v29.1.Kids, RE.rd k_Slot A43 cp44 v41.1.Arena.Slots, RE.rd (Kd.slice k_Handle) A46 cp47 v41.1.Kids, RE.rd k_Slot A55 cp56 v53.1.Arena.Slots, RE.rd (Kd.slice k_Handle) A58 cp59 v53.1.Kids, RE.rd k_Handle A67 cp68 v65.1, RE.rd k_Slot A73 cp74 v71.1.Arena.Slots, RE.rd (Kd.slice k_Handle) A76 cp77 v71.1.Kids, RE.rd k_Handle A85 cp86 v83.1, RE.rd k_Handle A91 cp92 v89.1, RE.rd k_Slot A97 cp98 v95.1.Arena.Slots, RE.rd (Kd.slice k_Handle) A100 cp101 v95.1.Kids]) => ?_))
 refine RL_pure (by exact wn0 rfl) (by rfl) (by rfl) (x_assign (v := .int .i64 v95.2) (by rfl)) ?_
 refine RL_nil ?_
 refine W_seq ?_
 refine W_draw [.free 0, .free 1, .free 2, .free 3, .free 4, .free 5, .free 6, .free 7, .free 8, .free 9, .free 10, .free 11, .free 12, .free 13, .free 14, .free 15, .free 16, .free 17, .free 18, .free 19, .free 20, .free 21, .take 22, .free 23, .take 24, .free 25, .free 26, .free 27] (fun wS => Sep ok w wS [.blk b10 79 [.slice A4 v2.1.Arena.Slots.length cp5, .slice A7 v2.1.Kids.length cp8], .blk b12 82 [.int .i64 v2.2.1.a0.Slot, .int .i64 v2.2.1.a0.Gen, .int .i64 v2.2.1.a1.Slot, .int .i64 v2.2.1.a1.Gen, .int .i64 v2.2.1.a2.Slot, .int .i64 v2.2.1.a2.Gen], .blk b25 79 [.slice A19 v17.1.Arena.Slots.length cp20, .slice A22 v17.1.Kids.length cp23], .blk b37 79 [.slice A31 v29.1.Arena.Slots.length cp32, .slice A34 v29.1.Kids.length cp35], .blk b49 79 [.slice A43 v41.1.Arena.Slots.length cp44, .slice A46 v41.1.Kids.length cp47], .blk b61 79 [.slice A55 v53.1.Arena.Slots.length cp56, .slice A58 v53.1.Kids.length cp59], .blk b79 79 [.slice A73 v71.1.Arena.Slots.length cp74, .slice A76 v71.1.Kids.length cp77], .blk b103 79 [.slice A97 v95.1.Arena.Slots.length cp98, .slice A100 v95.1.Kids.length cp101]] [RE.rd k_Slot A4 cp5 v2.1.Arena.Slots, RE.rd (Kd.slice k_Handle) A7 cp8 v2.1.Kids, RE.rd k_Slot A19 cp20 v17.1.Arena.Slots, RE.rd (Kd.slice k_Handle) A22 cp23 v17.1.Kids, RE.rd k_Slot A31 cp32 v29.1.Arena.Slots, RE.rd (Kd.slice k_Handle) A34 cp35 v29.1.Kids, RE.rd k_Slot A43 cp44 v41.1.Arena.Slots, RE.rd (Kd.slice k_Handle) A46 cp47 v41.1.Kids, RE.rd k_Slot A55 cp56 v53.1.Arena.Slots, RE.rd (Kd.slice k_Handle) A58 cp59 v53.1.Kids, RE.rd k_Handle A67 cp68 v65.1, RE.rd k_Slot A73 cp74 v71.1.Arena.Slots, RE.rd (Kd.slice k_Handle) A76 cp77 v71.1.Kids, RE.rd k_Handle A85 cp86 v83.1, RE.rd k_Handle A91 cp92 v89.1, RE.rd k_Slot A97 cp98 v95.1.Arena.Slots, RE.rd (Kd.slice k_Handle) A100 cp101 v95.1.Kids]) [] [0, 1, 2, 3, 4, 5, 6, 7, 8, 9, 10, 11, 12, 13, 14, 15, 16, 17, 18, 19, 20, 21, 23, 25, 26, 27] mixed0 (by kernel_rfl) (by kernel_rfl) (by kernel_rfl) (by rfl) (by exact H.drew) ?_
 obtain ⟨w106, hW⟩ : ∃ W : World, W = { w105 with drawn := w105.drawn + 1 } := ⟨_, rfl⟩
 rw [← hW]
 have H : Sep ok w w106 [.blk b10 79 [.slice A4 v2.1.Arena.Slots.length cp5, .slice A7 v2.1.Kids.length cp8], .blk b12 82 [.int .i64 v2.2.1.a0.Slot, .int .i64 v2.2.1.a0.Gen, .int .i64 v2.2.1.a1.Slot, .int .i64 v2.2.1.a1.Gen, .int .i64 v2.2.1.a2.Slot, .int .i64 v2.2.1.a2.Gen], .blk b25 79 [.slice A19 v17.1.Arena.Slots.length cp20, .slice A22 v17.1.Kids.length cp23], .blk b37 79 [.slice A31 v29.1.Arena.Slots.length cp32, .slice A34 v29.1.Kids.length cp35], .blk b49 79 [.slice A43 v41.1.Arena.Slots.length cp44, .slice A46 v41.1.Kids.length cp47], .blk b61 79 [.slice A55 v53.1.Arena.Slots.length cp56, .slice A58 v53.1.Kids.length cp59], .blk b79 79 [.slice A73 v71.1.Arena.Slots.length cp74, .slice A76 v71.1.Kids.length cp77], .blk b103 79 [.slice A97 v95.1.Arena.Slots.length cp98, .slice A100 v95.1.Kids.length cp101]] [RE.rd k_Slot A4 cp5 v2.1.Arena.Slots, RE.rd (Kd.slice k_Handle) A7 cp8 v2.1.Kids, RE.rd k_Slot A19 cp20 v17.1.Arena.Slots, RE.rd (Kd.slice k_Handle) A22 cp23 v17.1.Kids, RE.rd k_Slot A31 cp32 v29.1.Arena.Slots, RE.rd (Kd.slice k_Handle) A34 cp35 v29.1.Kids, RE.rd k_Slot A43 cp44 v41.1.Arena.Slots, RE.rd (Kd.slice k_Handle) A46 cp47 v41.1.Kids, RE.rd k_Slot A55 cp56 v53.1.Arena.Slots, RE.rd (Kd.slice k_Handle) A58 cp59 v53.1.Kids, RE.rd k_Handle A67 cp68 v65.1, RE.rd k_Slot A73 cp74 v71.1.Arena.Slots, RE.rd (Kd.slice k_Handle) A76 cp77 v71.1.Kids, RE.rd k_Handle A85 cp86 v83.1, RE.rd k_Handle A91 cp92 v89.1, RE.rd k_Slot A97 cp98 v95.1.Arena.Slots, RE.rd (Kd.slice k_Handle) A100 cp101 v95.1.Kids] := by rw [hW]; exact H.drew
 clear hW
 refine PR_free (by rfl) (by rfl) (by rfl) (by exact wn0 rfl) (fun wS => (x_move (v := .int .i64 v17.2) (by rfl))) ?_
 refine PR_free (by rfl) (by rfl) (by rfl) (by exact wn0 rfl) (fun wS => (x_eql (by rfl) (by rfl))) ?_
 refine PR_free (by rfl) (by rfl) (by rfl) (by exact wn0 rfl) (fun wS => (x_move (v := .bool (v17.2 == 60)) (by rfl))) ?_
 obtain ⟨b107, hmS, hm⟩ := bind_some hm
 refine PR_cut 3 (fun r' w' => Agr [(104, .bool b107), (2, .pointer (some ⟨b12, 0, none⟩)), (9, .int .i64 v41.2), (11, .int .i64 v53.2), (12, .slice A67 v65.1.length cp68), (15, .int .i64 v71.2), (16, .slice A85 v83.1.length cp86), (17, .int .i64 v83.2), (19, .int .i64 v89.2), (21, .int .i64 v95.2)] r' ∧ Sep ok w w' [.blk b10 79 [.slice A4 v2.1.Arena.Slots.length cp5, .slice A7 v2.1.Kids.length cp8], .blk b12 82 [.int .i64 v2.2.1.a0.Slot, .int .i64 v2.2.1.a0.Gen, .int .i64 v2.2.1.a1.Slot, .int .i64 v2.2.1.a1.Gen, .int .i64 v2.2.1.a2.Slot, .int .i64 v2.2.1.a2.Gen], .blk b25 79 [.slice A19 v17.1.Arena.Slots.length cp20, .slice A22 v17.1.Kids.length cp23], .blk b37 79 [.slice A31 v29.1.Arena.Slots.length cp32, .slice A34 v29.1.Kids.length cp35], .blk b49 79 [.slice A43 v41.1.Arena.Slots.length cp44, .slice A46 v41.1.Kids.length cp47], .blk b61 79 [.slice A55 v53.1.Arena.Slots.length cp56, .slice A58 v53.1.Kids.length cp59], .blk b79 79 [.slice A73 v71.1.Arena.Slots.length cp74, .slice A76 v71.1.Kids.length cp77], .blk b103 79 [.slice A97 v95.1.Arena.Slots.length cp98, .slice A100 v95.1.Kids.length cp101]] [RE.rd k_Slot A4 cp5 v2.1.Arena.Slots, RE.rd (Kd.slice k_Handle) A7 cp8 v2.1.Kids, RE.rd k_Slot A19 cp20 v17.1.Arena.Slots, RE.rd (Kd.slice k_Handle) A22 cp23 v17.1.Kids, RE.rd k_Slot A31 cp32 v29.1.Arena.Slots, RE.rd (Kd.slice k_Handle) A34 cp35 v29.1.Kids, RE.rd k_Slot A43 cp44 v41.1.Arena.Slots, RE.rd (Kd.slice k_Handle) A46 cp47 v41.1.Kids, RE.rd k_Slot A55 cp56 v53.1.Arena.Slots, RE.rd (Kd.slice k_Handle) A58 cp59 v53.1.Kids, RE.rd k_Handle A67 cp68 v65.1, RE.rd k_Slot A73 cp74 v71.1.Arena.Slots, RE.rd (Kd.slice k_Handle) A76 cp77 v71.1.Kids, RE.rd k_Handle A85 cp86 v83.1, RE.rd k_Handle A91 cp92 v89.1, RE.rd k_Slot A97 cp98 v95.1.Arena.Slots, RE.rd (Kd.slice k_Handle) A100 cp101 v95.1.Kids]) ?_ ?_
 ·cases hbS : (v17.2 == 60)
  ·have hm := cond_f hbS hmS
   refine PR_offF (by rfl) (by rfl) (by rfl) (by exact wn2 rfl rfl rfl rfl) ?_
   refine PR_offF (by rfl) (by rfl) (by rfl) (by exact wn2 rfl rfl rfl rfl) ?_
   refine PR_free (by rfl) (by rfl) (by rfl) (by exact wn0 rfl) (fun wS => (x_pick_f (v := .bool false) (by rfl) (by rfl))) ?_
   refine PR_nil ?_
   exact ⟨⟨congrArg Value.bool (Option.some.inj hm), rfl, rfl, rfl, rfl, rfl, rfl, rfl, rfl, rfl, trivial⟩, H⟩
  ·have hm := cond_t hbS hmS
   refine PR_free (by rfl) (by rfl) (by rfl) (by exact wn1 rfl rfl rfl rfl) (fun wS => (x_move (v := .int .i64 v29.2) (by rfl))) ?_
   refine PR_free (by rfl) (by rfl) (by rfl) (by exact wn1 rfl rfl rfl rfl) (fun wS => (x_eql (by rfl) (by rfl))) ?_
   refine PR_free (by rfl) (by rfl) (by rfl) (by exact wn0 rfl) (fun wS => (x_pick_t (v := .bool (v29.2 == 60)) (by rfl) (by rfl))) ?_
   refine PR_nil ?_
   exact ⟨⟨congrArg Value.bool (Option.some.inj hm), rfl, rfl, rfl, rfl, rfl, rfl, rfl, rfl, rfl, trivial⟩, H⟩
 ·rintro r' w' ⟨hA, H⟩
  obtain ⟨r108, rfl⟩ := regen _ hA; clear hA
  obtain ⟨w109, rfl⟩ : ∃ W : World, W = w' := ⟨_, rfl⟩
  show PR _ _ _ _ _ _ _ _
  refine PR_free (by rfl) (by rfl) (by rfl) (by exact wn0 rfl) (fun wS => (x_move (v := .bool b107) (by rfl))) ?_
  obtain ⟨b110, hmS, hm⟩ := bind_some hm
  refine PR_cut 3 (fun r' w' => Agr [(108, .bool b110), (2, .pointer (some ⟨b12, 0, none⟩)), (11, .int .i64 v53.2), (12, .slice A67 v65.1.length cp68), (15, .int .i64 v71.2), (16, .slice A85 v83.1.length cp86), (17, .int .i64 v83.2), (19, .int .i64 v89.2), (21, .int .i64 v95.2)] r' ∧ Sep ok w w' [.blk b10 79 [.slice A4 v2.1.Arena.Slots.length cp5, .slice A7 v2.1.Kids.length cp8], .blk b12 82 [.int .i64 v2.2.1.a0.Slot, .int .i64 v2.2.1.a0.Gen, .int .i64 v2.2.1.a1.Slot, .int .i64 v2.2.1.a1.Gen, .int .i64 v2.2.1.a2.Slot, .int .i64 v2.2.1.a2.Gen], .blk b25 79 [.slice A19 v17.1.Arena.Slots.length cp20, .slice A22 v17.1.Kids.length cp23], .blk b37 79 [.slice A31 v29.1.Arena.Slots.length cp32, .slice A34 v29.1.Kids.length cp35], .blk b49 79 [.slice A43 v41.1.Arena.Slots.length cp44, .slice A46 v41.1.Kids.length cp47], .blk b61 79 [.slice A55 v53.1.Arena.Slots.length cp56, .slice A58 v53.1.Kids.length cp59], .blk b79 79 [.slice A73 v71.1.Arena.Slots.length cp74, .slice A76 v71.1.Kids.length cp77], .blk b103 79 [.slice A97 v95.1.Arena.Slots.length cp98, .slice A100 v95.1.Kids.length cp101]] [RE.rd k_Slot A4 cp5 v2.1.Arena.Slots, RE.rd (Kd.slice k_Handle) A7 cp8 v2.1.Kids, RE.rd k_Slot A19 cp20 v17.1.Arena.Slots, RE.rd (Kd.slice k_Handle) A22 cp23 v17.1.Kids, RE.rd k_Slot A31 cp32 v29.1.Arena.Slots, RE.rd (Kd.slice k_Handle) A34 cp35 v29.1.Kids, RE.rd k_Slot A43 cp44 v41.1.Arena.Slots, RE.rd (Kd.slice k_Handle) A46 cp47 v41.1.Kids, RE.rd k_Slot A55 cp56 v53.1.Arena.Slots, RE.rd (Kd.slice k_Handle) A58 cp59 v53.1.Kids, RE.rd k_Handle A67 cp68 v65.1, RE.rd k_Slot A73 cp74 v71.1.Arena.Slots, RE.rd (Kd.slice k_Handle) A76 cp77 v71.1.Kids, RE.rd k_Handle A85 cp86 v83.1, RE.rd k_Handle A91 cp92 v89.1, RE.rd k_Slot A97 cp98 v95.1.Arena.Slots, RE.rd (Kd.slice k_Handle) A100 cp101 v95.1.Kids]) ?_ ?_
  ·cases hbS : b107
   ·have hm := cond_f hbS hmS
    refine PR_offF (by rfl) (by rfl) (by rfl) (by exact wn2 rfl rfl rfl rfl) ?_
    refine PR_offF (by rfl) (by rfl) (by rfl) (by exact wn2 rfl rfl rfl rfl) ?_
    refine PR_free (by rfl) (by rfl) (by rfl) (by exact wn0 rfl) (fun wS => (x_pick_f (v := .bool false) (by rfl) (by rfl))) ?_
    refine PR_nil ?_
    exact ⟨⟨congrArg Value.bool (Option.some.inj hm), rfl, rfl, rfl, rfl, rfl, rfl, rfl, rfl, trivial⟩, H⟩
   ·have hm := cond_t hbS hmS
    refine PR_free (by rfl) (by rfl) (by rfl) (by exact wn1 rfl rfl rfl rfl) (fun wS => (x_move (v := .int .i64 v41.2) (by rfl))) ?_
    refine PR_free (by rfl) (by rfl) (by rfl) (by exact wn1 rfl rfl rfl rfl) (fun wS => (x_eql (by rfl) (by rfl))) ?_
    refine PR_free (by rfl) (by rfl) (by rfl) (by exact wn0 rfl) (fun wS => (x_pick_t (v := .bool (v41.2 == 2)) (by rfl) (by rfl))) ?_
    refine PR_nil ?_
    exact ⟨⟨congrArg Value.bool (Option.some.inj hm), rfl, rfl, rfl, rfl, rfl, rfl, rfl, rfl, trivial⟩, H⟩
  ·rintro r' w' ⟨hA, H⟩
   obtain ⟨r111, rfl⟩ := regen _ hA; clear hA
   obtain ⟨w112, rfl⟩ : ∃ W : World, W = w' := ⟨_, rfl⟩
   show PR _ _ _ _ _ _ _ _
   refine PR_free (by rfl) (by rfl) (by rfl) (by exact wn0 rfl) (fun wS => (x_move (v := .bool b110) (by rfl))) ?_
   obtain ⟨b113, hmS, hm⟩ := bind_some hm
   refine PR_cut 3 (fun r' w' => Agr [(112, .bool b113), (2, .pointer (some ⟨b12, 0, none⟩)), (12, .slice A67 v65.1.length cp68), (15, .int .i64 v71.2), (16, .slice A85 v83.1.length cp86), (17, .int .i64 v83.2), (19, .int .i64 v89.2), (21, .int .i64 v95.2)] r' ∧ Sep ok w w' [.blk b10 79 [.slice A4 v2.1.Arena.Slots.length cp5, .slice A7 v2.1.Kids.length cp8], .blk b12 82 [.int .i64 v2.2.1.a0.Slot, .int .i64 v2.2.1.a0.Gen, .int .i64 v2.2.1.a1.Slot, .int .i64 v2.2.1.a1.Gen, .int .i64 v2.2.1.a2.Slot, .int .i64 v2.2.1.a2.Gen], .blk b25 79 [.slice A19 v17.1.Arena.Slots.length cp20, .slice A22 v17.1.Kids.length cp23], .blk b37 79 [.slice A31 v29.1.Arena.Slots.length cp32, .slice A34 v29.1.Kids.length cp35], .blk b49 79 [.slice A43 v41.1.Arena.Slots.length cp44, .slice A46 v41.1.Kids.length cp47], .blk b61 79 [.slice A55 v53.1.Arena.Slots.length cp56, .slice A58 v53.1.Kids.length cp59], .blk b79 79 [.slice A73 v71.1.Arena.Slots.length cp74, .slice A76 v71.1.Kids.length cp77], .blk b103 79 [.slice A97 v95.1.Arena.Slots.length cp98, .slice A100 v95.1.Kids.length cp101]] [RE.rd k_Slot A4 cp5 v2.1.Arena.Slots, RE.rd (Kd.slice k_Handle) A7 cp8 v2.1.Kids, RE.rd k_Slot A19 cp20 v17.1.Arena.Slots, RE.rd (Kd.slice k_Handle) A22 cp23 v17.1.Kids, RE.rd k_Slot A31 cp32 v29.1.Arena.Slots, RE.rd (Kd.slice k_Handle) A34 cp35 v29.1.Kids, RE.rd k_Slot A43 cp44 v41.1.Arena.Slots, RE.rd (Kd.slice k_Handle) A46 cp47 v41.1.Kids, RE.rd k_Slot A55 cp56 v53.1.Arena.Slots, RE.rd (Kd.slice k_Handle) A58 cp59 v53.1.Kids, RE.rd k_Handle A67 cp68 v65.1, RE.rd k_Slot A73 cp74 v71.1.Arena.Slots, RE.rd (Kd.slice k_Handle) A76 cp77 v71.1.Kids, RE.rd k_Handle A85 cp86 v83.1, RE.rd k_Handle A91 cp92 v89.1, RE.rd k_Slot A97 cp98 v95.1.Arena.Slots, RE.rd (Kd.slice k_Handle) A100 cp101 v95.1.Kids]) ?_ ?_
   ·cases hbS : b110
    ·have hm := cond_f hbS hmS
     refine PR_offF (by rfl) (by rfl) (by rfl) (by exact wn2 rfl rfl rfl rfl) ?_
     refine PR_offF (by rfl) (by rfl) (by rfl) (by exact wn2 rfl rfl rfl rfl) ?_
     refine PR_free (by rfl) (by rfl) (by rfl) (by exact wn0 rfl) (fun wS => (x_pick_f (v := .bool false) (by rfl) (by rfl))) ?_
     refine PR_nil ?_
     exact ⟨⟨congrArg Value.bool (Option.some.inj hm), rfl, rfl, rfl, rfl, rfl, rfl, rfl, trivial⟩, H⟩
    ·have hm := cond_t hbS hmS
     refine PR_free (by rfl) (by rfl) (by rfl) (by exact wn1 rfl rfl rfl rfl) (fun wS => (x_move (v := .int .i64 v53.2) (by rfl))) ?_
     refine PR_free (by rfl) (by rfl) (by rfl) (by exact wn1 rfl rfl rfl rfl) (fun wS => (x_eql (by rfl) (by rfl))) ?_
     refine PR_free (by rfl) (by rfl) (by rfl) (by exact wn0 rfl) (fun wS => (x_pick_t (v := .bool (v53.2 == 0)) (by rfl) (by rfl))) ?_
     refine PR_nil ?_
     exact ⟨⟨congrArg Value.bool (Option.some.inj hm), rfl, rfl, rfl, rfl, rfl, rfl, rfl, trivial⟩, H⟩
   ·rintro r' w' ⟨hA, H⟩
    obtain ⟨r114, rfl⟩ := regen _ hA; clear hA
    obtain ⟨w115, rfl⟩ : ∃ W : World, W = w' := ⟨_, rfl⟩
    show PR _ _ _ _ _ _ _ _
    refine PR_free (by rfl) (by rfl) (by rfl) (by exact wn0 rfl) (fun wS => (x_move (v := .bool b113) (by rfl))) ?_
    obtain ⟨b116, hmS, hm⟩ := bind_some hm
    refine PR_cut 4 (fun r' w' => Agr [(117, .bool b116), (2, .pointer (some ⟨b12, 0, none⟩)), (12, .slice A67 v65.1.length cp68), (15, .int .i64 v71.2), (16, .slice A85 v83.1.length cp86), (17, .int .i64 v83.2), (19, .int .i64 v89.2), (21, .int .i64 v95.2)] r' ∧ Sep ok w w' [.blk b10 79 [.slice A4 v2.1.Arena.Slots.length cp5, .slice A7 v2.1.Kids.length cp8], .blk b12 82 [.int .i64 v2.2.1.a0.Slot, .int .i64 v2.2.1.a0.Gen, .int .i64 v2.2.1.a1.Slot, .int .i64 v2.2.1.a1.Gen, .int .i64 v2.2.1.a2.Slot, .int .i64 v2.2.1.a2.Gen], .blk b25 79 [.slice A19 v17.1.Arena.Slots.length cp20, .slice A22 v17.1.Kids.length cp23], .blk b37 79 [.slice A31 v29.1.Arena.Slots.length cp32, .slice A34 v29.1.Kids.length cp35], .blk b49 79 [.slice A43 v41.1.Arena.Slots.length cp44, .slice A46 v41.1.Kids.length cp47], .blk b61 79 [.slice A55 v53.1.Arena.Slots.length cp56, .slice A58 v53.1.Kids.length cp59], .blk b79 79 [.slice A73 v71.1.Arena.Slots.length cp74, .slice A76 v71.1.Kids.length cp77], .blk b103 79 [.slice A97 v95.1.Arena.Slots.length cp98, .slice A100 v95.1.Kids.length cp101]] [RE.rd k_Slot A4 cp5 v2.1.Arena.Slots, RE.rd (Kd.slice k_Handle) A7 cp8 v2.1.Kids, RE.rd k_Slot A19 cp20 v17.1.Arena.Slots, RE.rd (Kd.slice k_Handle) A22 cp23 v17.1.Kids, RE.rd k_Slot A31 cp32 v29.1.Arena.Slots, RE.rd (Kd.slice k_Handle) A34 cp35 v29.1.Kids, RE.rd k_Slot A43 cp44 v41.1.Arena.Slots, RE.rd (Kd.slice k_Handle) A46 cp47 v41.1.Kids, RE.rd k_Slot A55 cp56 v53.1.Arena.Slots, RE.rd (Kd.slice k_Handle) A58 cp59 v53.1.Kids, RE.rd k_Handle A67 cp68 v65.1, RE.rd k_Slot A73 cp74 v71.1.Arena.Slots, RE.rd (Kd.slice k_Handle) A76 cp77 v71.1.Kids, RE.rd k_Handle A85 cp86 v83.1, RE.rd k_Handle A91 cp92 v89.1, RE.rd k_Slot A97 cp98 v95.1.Arena.Slots, RE.rd (Kd.slice k_Handle) A100 cp101 v95.1.Kids]) ?_ ?_
    ·cases hbS : b113
     ·have hm := cond_f hbS hmS
      refine PR_offF (by rfl) (by rfl) (by rfl) (by exact wn2 rfl rfl rfl rfl) ?_
      refine PR_offF (by rfl) (by rfl) (by rfl) (by exact wn2 rfl rfl rfl rfl) ?_
      refine PR_offF (by rfl) (by rfl) (by rfl) (by exact wn2 rfl rfl rfl rfl) ?_
      refine PR_free (by rfl) (by rfl) (by rfl) (by exact wn0 rfl) (fun wS => (x_pick_f (v := .bool false) (by rfl) (by rfl))) ?_
      refine PR_nil ?_
      exact ⟨⟨congrArg Value.bool (Option.some.inj hm), rfl, rfl, rfl, rfl, rfl, rfl, rfl, trivial⟩, H⟩
     ·have hm := cond_t hbS hmS
      refine PR_free (by rfl) (by rfl) (by rfl) (by exact wn1 rfl rfl rfl rfl) (fun wS => (x_move (v := .slice A67 v65.1.length cp68) (by rfl))) ?_
      refine PR_free (by rfl) (by rfl) (by rfl) (by exact wn1 rfl rfl rfl rfl) (fun wS => (x_len sl87 (by rfl))) ?_
      refine PR_free (by rfl) (by rfl) (by rfl) (by exact wn1 rfl rfl rfl rfl) (fun wS => (x_eql (by rfl) (by rfl))) ?_
      refine PR_free (by rfl) (by rfl) (by rfl) (by exact wn0 rfl) (fun wS => (x_pick_t (v := .bool ((v65.1.length : Int) == 3)) (by rfl) (by rfl))) ?_
      refine PR_nil ?_
      exact ⟨⟨congrArg Value.bool (Option.some.inj hm), rfl, rfl, rfl, rfl, rfl, rfl, rfl, trivial⟩, H⟩
    ·rintro r' w' ⟨hA, H⟩
     obtain ⟨r117, rfl⟩ := regen _ hA; clear hA
     obtain ⟨w118, rfl⟩ : ∃ W : World, W = w' := ⟨_, rfl⟩
     show PR _ _ _ _ _ _ _ _
     refine PR_free (by rfl) (by rfl) (by rfl) (by exact wn0 rfl) (fun wS => (x_move (v := .bool b116) (by rfl))) ?_
     obtain ⟨b119, hmS, hm⟩ := bind_some hm
     refine PR_cut 7 (fun r' w' => Agr [(125, .bool b119), (15, .int .i64 v71.2), (16, .slice A85 v83.1.length cp86), (17, .int .i64 v83.2), (19, .int .i64 v89.2), (21, .int .i64 v95.2)] r' ∧ Sep ok w w' [.blk b10 79 [.slice A4 v2.1.Arena.Slots.length cp5, .slice A7 v2.1.Kids.length cp8], .blk b12 82 [.int .i64 v2.2.1.a0.Slot, .int .i64 v2.2.1.a0.Gen, .int .i64 v2.2.1.a1.Slot, .int .i64 v2.2.1.a1.Gen, .int .i64 v2.2.1.a2.Slot, .int .i64 v2.2.1.a2.Gen], .blk b25 79 [.slice A19 v17.1.Arena.Slots.length cp20, .slice A22 v17.1.Kids.length cp23], .blk b37 79 [.slice A31 v29.1.Arena.Slots.length cp32, .slice A34 v29.1.Kids.length cp35], .blk b49 79 [.slice A43 v41.1.Arena.Slots.length cp44, .slice A46 v41.1.Kids.length cp47], .blk b61 79 [.slice A55 v53.1.Arena.Slots.length cp56, .slice A58 v53.1.Kids.length cp59], .blk b79 79 [.slice A73 v71.1.Arena.Slots.length cp74, .slice A76 v71.1.Kids.length cp77], .blk b103 79 [.slice A97 v95.1.Arena.Slots.length cp98, .slice A100 v95.1.Kids.length cp101]] [RE.rd k_Slot A4 cp5 v2.1.Arena.Slots, RE.rd (Kd.slice k_Handle) A7 cp8 v2.1.Kids, RE.rd k_Slot A19 cp20 v17.1.Arena.Slots, RE.rd (Kd.slice k_Handle) A22 cp23 v17.1.Kids, RE.rd k_Slot A31 cp32 v29.1.Arena.Slots, RE.rd (Kd.slice k_Handle) A34 cp35 v29.1.Kids, RE.rd k_Slot A43 cp44 v41.1.Arena.Slots, RE.rd (Kd.slice k_Handle) A46 cp47 v41.1.Kids, RE.rd k_Slot A55 cp56 v53.1.Arena.Slots, RE.rd (Kd.slice k_Handle) A58 cp59 v53.1.Kids, RE.rd k_Handle A67 cp68 v65.1, RE.rd k_Slot A73 cp74 v71.1.Arena.Slots, RE.rd (Kd.slice k_Handle) A76 cp77 v71.1.Kids, RE.rd k_Handle A85 cp86 v83.1, RE.rd k_Handle A91 cp92 v89.1, RE.rd k_Slot A97 cp98 v95.1.Arena.Slots, RE.rd (Kd.slice k_Handle) A100 cp101 v95.1.Kids]) ?_ ?_
     ·cases hbS : b116
      ·have hm := cond_f hbS hmS
       refine PR_offF (by rfl) (by rfl) (by rfl) (by exact wn2 rfl rfl rfl rfl) ?_
       refine PR_offF (by rfl) (by rfl) (by rfl) (by exact wn2 rfl rfl rfl rfl) ?_
       refine PR_off (by rfl) (by rfl) (by rfl) (by exact wn2 rfl rfl rfl rfl) ?_
       refine PR_offF (by rfl) (by rfl) (by rfl) (by exact wn2 rfl rfl rfl rfl) ?_
       refine PR_off (by rfl) (by rfl) (by rfl) (by exact wn2 rfl rfl rfl rfl) ?_
       refine PR_offF (by rfl) (by rfl) (by rfl) (by exact wn2 rfl rfl rfl rfl) ?_
       refine PR_free (by rfl) (by rfl) (by rfl) (by exact wn0 rfl) (fun wS => (x_pick_f (v := .bool false) (by rfl) (by rfl))) ?_
       refine PR_nil ?_
       exact ⟨⟨congrArg Value.bool (Option.some.inj hm), rfl, rfl, rfl, rfl, rfl, trivial⟩, H⟩
      ·have hm := cond_t hbS hmS
       refine PR_free (by rfl) (by rfl) (by rfl) (by exact wn1 rfl rfl rfl rfl) (fun wS => (x_move (v := .slice A67 v65.1.length cp68) (by rfl))) ?_
       obtain ⟨el120, h121, h122, he123, hm⟩ := idx_some hm
       obtain ⟨g125, o126, hA124⟩ := (H.rd (i := 10) (by rfl)).addr he123
       refine PR_free (by rfl) (by rfl) (by rfl) (by exact wn1 rfl rfl rfl rfl) (fun wS => (x_indexAddr sl87 sz81 (by rfl) (by rfl) hA124 h121 h122)) ?_
       refine PR_take (by rfl) (by rfl) (by rfl) (by exact wn1 rfl rfl rfl rfl) (fun wS (H : Sep ok w wS [.blk b10 79 [.slice A4 v2.1.Arena.Slots.length cp5, .slice A7 v2.1.Kids.length cp8], .blk b12 82 [.int .i64 v2.2.1.a0.Slot, .int .i64 v2.2.1.a0.Gen, .int .i64 v2.2.1.a1.Slot, .int .i64 v2.2.1.a1.Gen, .int .i64 v2.2.1.a2.Slot, .int .i64 v2.2.1.a2.Gen], .blk b25 79 [.slice A19 v17.1.Arena.Slots.length cp20, .slice A22 v17.1.Kids.length cp23], .blk b37 79 [.slice A31 v29.1.Arena.Slots.length cp32, .slice A34 v29.1.Kids.length cp35], .blk b49 79 [.slice A43 v41.1.Arena.Slots.length cp44, .slice A46 v41.1.Kids.length cp47], .blk b61 79 [.slice A55 v53.1.Arena.Slots.length cp56, .slice A58 v53.1.Kids.length cp59], .blk b79 79 [.slice A73 v71.1.Arena.Slots.length cp74, .slice A76 v71.1.Kids.length cp77], .blk b103 79 [.slice A97 v95.1.Arena.Slots.length cp98, .slice A100 v95.1.Kids.length cp101]] [RE.rd k_Slot A4 cp5 v2.1.Arena.Slots, RE.rd (Kd.slice k_Handle) A7 cp8 v2.1.Kids, RE.rd k_Slot A19 cp20 v17.1.Arena.Slots, RE.rd (Kd.slice k_Handle) A22 cp23 v17.1.Kids, RE.rd k_Slot A31 cp32 v29.1.Arena.Slots, RE.rd (Kd.slice k_Handle) A34 cp35 v29.1.Kids, RE.rd k_Slot A43 cp44 v41.1.Arena.Slots, RE.rd (Kd.slice k_Handle) A46 cp47 v41.1.Kids, RE.rd k_Slot A55 cp56 v53.1.Arena.Slots, RE.rd (Kd.slice k_Handle) A58 cp59 v53.1.Kids, RE.rd k_Handle A67 cp68 v65.1, RE.rd k_Slot A73 cp74 v71.1.Arena.Slots, RE.rd (Kd.slice k_Handle) A76 cp77 v71.1.Kids, RE.rd k_Handle A85 cp86 v83.1, RE.rd k_Handle A91 cp92 v89.1, RE.rd k_Slot A97 cp98 v95.1.Arena.Slots, RE.rd (Kd.slice k_Handle) A100 cp101 v95.1.Kids]) => (x_loadA (j := 0) (vs := [.int .i64 el120.Slot, .int .i64 el120.Gen]) ag81 (by rfl) (Rd.flatAt (n := 2) (H.rd (i := 10) (by rfl)) hA124 he123) (by rfl) (by rfl))) ?_
       refine PR_free (by rfl) (by rfl) (by rfl) (by exact wn1 rfl rfl rfl rfl) (fun wS => (x_indexArr ar82 sz81 (by rfl) (by rfl) (by decide) (by decide))) ?_
       refine PR_take (by rfl) (by rfl) (by rfl) (by exact wn1 rfl rfl rfl rfl) (fun wS (H : Sep ok w wS [.blk b10 79 [.slice A4 v2.1.Arena.Slots.length cp5, .slice A7 v2.1.Kids.length cp8], .blk b12 82 [.int .i64 v2.2.1.a0.Slot, .int .i64 v2.2.1.a0.Gen, .int .i64 v2.2.1.a1.Slot, .int .i64 v2.2.1.a1.Gen, .int .i64 v2.2.1.a2.Slot, .int .i64 v2.2.1.a2.Gen], .blk b25 79 [.slice A19 v17.1.Arena.Slots.length cp20, .slice A22 v17.1.Kids.length cp23], .blk b37 79 [.slice A31 v29.1.Arena.Slots.length cp32, .slice A34 v29.1.Kids.length cp35], .blk b49 79 [.slice A43 v41.1.Arena.Slots.length cp44, .slice A46 v41.1.Kids.length cp47], .blk b61 79 [.slice A55 v53.1.Arena.Slots.length cp56, .slice A58 v53.1.Kids.length cp59], .blk b79 79 [.slice A73 v71.1.Arena.Slots.length cp74, .slice A76 v71.1.Kids.length cp77], .blk b103 79 [.slice A97 v95.1.Arena.Slots.length cp98, .slice A100 v95.1.Kids.length cp101]] [RE.rd k_Slot A4 cp5 v2.1.Arena.Slots, RE.rd (Kd.slice k_Handle) A7 cp8 v2.1.Kids, RE.rd k_Slot A19 cp20 v17.1.Arena.Slots, RE.rd (Kd.slice k_Handle) A22 cp23 v17.1.Kids, RE.rd k_Slot A31 cp32 v29.1.Arena.Slots, RE.rd (Kd.slice k_Handle) A34 cp35 v29.1.Kids, RE.rd k_Slot A43 cp44 v41.1.Arena.Slots, RE.rd (Kd.slice k_Handle) A46 cp47 v41.1.Kids, RE.rd k_Slot A55 cp56 v53.1.Arena.Slots, RE.rd (Kd.slice k_Handle) A58 cp59 v53.1.Kids, RE.rd k_Handle A67 cp68 v65.1, RE.rd k_Slot A73 cp74 v71.1.Arena.Slots, RE.rd (Kd.slice k_Handle) A76 cp77 v71.1.Kids, RE.rd k_Handle A85 cp86 v83.1, RE.rd k_Handle A91 cp92 v89.1, RE.rd k_Slot A97 cp98 v95.1.Arena.Slots, RE.rd (Kd.slice k_Handle) A100 cp101 v95.1.Kids]) => (x_loadA (j := 4) (vs := [.int .i64 v2.2.1.a2.Slot, .int .i64 v2.2.1.a2.Gen]) ag81 (by rfl) (H.cells (i := 1) (by rfl)) (by rfl) (by rfl))) ?_
       refine PR_free (by rfl) (by rfl) (by rfl) (by exact wn1 rfl rfl rfl rfl) (fun wS => (x_eqls ep81 eg81 (by rfl) (by rfl) (b := ((el120.Slot == v2.2.1.a2.Slot) && (el120.Gen == v2.2.1.a2.Gen))) (by rfl))) ?_
       refine PR_free (by rfl) (by rfl) (by rfl) (by exact wn0 rfl) (fun wS => (x_pick_t (v := .bool ((el120.Slot == v2.2.1.a2.Slot) && (el120.Gen == v2.2.1.a2.Gen))) (by rfl) (by rfl))) ?_
       refine PR_nil ?_
       exact ⟨⟨congrArg Value.bool (Option.some.inj hm), rfl, rfl, rfl, rfl, rfl, trivial⟩, H⟩
     ·rintro r' w' ⟨hA, H⟩
      obtain ⟨r127, rfl⟩ := regen _ hA; clear hA
      obtain ⟨w128, rfl⟩ : ∃ W : World, W = w' := ⟨_, rfl⟩
      show PR _ _ _ _ _ _ _ _
      refine PR_free (by rfl) (by rfl) (by rfl) (by exact wn0 rfl) (fun wS => (x_assign (v := .bool b119) (by rfl))) ?_
      refine PR_nil ?_
      refine W_seq ?_
      refine W_region ?_
      refine RL_pure (by exact wn0 rfl) (by rfl) (by rfl) (x_move (v := .bool true) (by rfl)) ?_
      obtain ⟨v130, hv129, hm⟩ := bind_some hm
      refine RL_cons (O_call (by exact wn1 rfl rfl rfl rfl) (by rfl) (by rfl) (x_callL (by rfl) (args := []) (by rfl) (cf42 _ _)) (c42 okT K w128   v130 hv129) ?_)
      rintro e w131 ⟨rfl, H2⟩
      have H : Sep ok w w131 [.blk b10 79 [.slice A4 v2.1.Arena.Slots.length cp5, .slice A7 v2.1.Kids.length cp8], .blk b12 82 [.int .i64 v2.2.1.a0.Slot, .int .i64 v2.2.1.a0.Gen, .int .i64 v2.2.1.a1.Slot, .int .i64 v2.2.1.a1.Gen, .int .i64 v2.2.1.a2.Slot, .int .i64 v2.2.1.a2.Gen], .blk b25 79 [.slice A19 v17.1.Arena.Slots.length cp20, .slice A22 v17.1.Kids.length cp23], .blk b37 79 [.slice A31 v29.1.Arena.Slots.length cp32, .slice A34 v29.1.Kids.length cp35], .blk b49 79 [.slice A43 v41.1.Arena.Slots.length cp44, .slice A46 v41.1.Kids.length cp47], .blk b61 79 [.slice A55 v53.1.Arena.Slots.length cp56, .slice A58 v53.1.Kids.length cp59], .blk b79 79 [.slice A73 v71.1.Arena.Slots.length cp74, .slice A76 v71.1.Kids.length cp77], .blk b103 79 [.slice A97 v95.1.Arena.Slots.length cp98, .slice A100 v95.1.Kids.length cp101]] [RE.rd k_Slot A4 cp5 v2.1.Arena.Slots, RE.rd (Kd.slice k_Handle) A7 cp8 v2.1.Kids, RE.rd k_Slot A19 cp20 v17.1.Arena.Slots, RE.rd (Kd.slice k_Handle) A22 cp23 v17.1.Kids, RE.rd k_Slot A31 cp32 v29.1.Arena.Slots, RE.rd (Kd.slice k_Handle) A34 cp35 v29.1.Kids, RE.rd k_Slot A43 cp44 v41.1.Arena.Slots, RE.rd (Kd.slice k_Handle) A46 cp47 v41.1.Kids, RE.rd k_Slot A55 cp56 v53.1.Arena.Slots, RE.rd (Kd.slice k_Handle) A58 cp59 v53.1.Kids, RE.rd k_Handle A67 cp68 v65.1, RE.rd k_Slot A73 cp74 v71.1.Arena.Slots, RE.rd (Kd.slice k_Handle) A76 cp77 v71.1.Kids, RE.rd k_Handle A85 cp86 v83.1, RE.rd k_Handle A91 cp92 v89.1, RE.rd k_Slot A97 cp98 v95.1.Arena.Slots, RE.rd (Kd.slice k_Handle) A100 cp101 v95.1.Kids] := H.below H2.base
      clear H2
      refine ⟨_, rfl, ?_⟩
      show RL _ _ _ _ _ _ _
      refine RL_pure (by exact wn0 rfl) (by rfl) (by rfl) (x_pick_t (v := .bool v130) (by rfl) (by rfl)) ?_
      refine RL_pure (by exact wn0 rfl) (by rfl) (by rfl) (x_move (v := .bool v130) (by rfl)) ?_
      obtain ⟨b132, hmS, hm⟩ := bind_some hm
      refine RL_cut 2 (fun r' w' => Agr [(131, .bool b132), (15, .int .i64 v71.2), (16, .slice A85 v83.1.length cp86), (17, .int .i64 v83.2), (19, .int .i64 v89.2), (21, .int .i64 v95.2)] r' ∧ Sep ok w w' [.blk b10 79 [.slice A4 v2.1.Arena.Slots.length cp5, .slice A7 v2.1.Kids.length cp8], .blk b12 82 [.int .i64 v2.2.1.a0.Slot, .int .i64 v2.2.1.a0.Gen, .int .i64 v2.2.1.a1.Slot, .int .i64 v2.2.1.a1.Gen, .int .i64 v2.2.1.a2.Slot, .int .i64 v2.2.1.a2.Gen], .blk b25 79 [.slice A19 v17.1.Arena.Slots.length cp20, .slice A22 v17.1.Kids.length cp23], .blk b37 79 [.slice A31 v29.1.Arena.Slots.length cp32, .slice A34 v29.1.Kids.length cp35], .blk b49 79 [.slice A43 v41.1.Arena.Slots.length cp44, .slice A46 v41.1.Kids.length cp47], .blk b61 79 [.slice A55 v53.1.Arena.Slots.length cp56, .slice A58 v53.1.Kids.length cp59], .blk b79 79 [.slice A73 v71.1.Arena.Slots.length cp74, .slice A76 v71.1.Kids.length cp77], .blk b103 79 [.slice A97 v95.1.Arena.Slots.length cp98, .slice A100 v95.1.Kids.length cp101]] [RE.rd k_Slot A4 cp5 v2.1.Arena.Slots, RE.rd (Kd.slice k_Handle) A7 cp8 v2.1.Kids, RE.rd k_Slot A19 cp20 v17.1.Arena.Slots, RE.rd (Kd.slice k_Handle) A22 cp23 v17.1.Kids, RE.rd k_Slot A31 cp32 v29.1.Arena.Slots, RE.rd (Kd.slice k_Handle) A34 cp35 v29.1.Kids, RE.rd k_Slot A43 cp44 v41.1.Arena.Slots, RE.rd (Kd.slice k_Handle) A46 cp47 v41.1.Kids, RE.rd k_Slot A55 cp56 v53.1.Arena.Slots, RE.rd (Kd.slice k_Handle) A58 cp59 v53.1.Kids, RE.rd k_Handle A67 cp68 v65.1, RE.rd k_Slot A73 cp74 v71.1.Arena.Slots, RE.rd (Kd.slice k_Handle) A76 cp77 v71.1.Kids, RE.rd k_Handle A85 cp86 v83.1, RE.rd k_Handle A91 cp92 v89.1, RE.rd k_Slot A97 cp98 v95.1.Arena.Slots, RE.rd (Kd.slice k_Handle) A100 cp101 v95.1.Kids]) ?_ ?_
      ·cases hbS : v130
       ·have hm := cond_f hbS hmS
        refine RL_cons (OpR_off (by exact wn2 rfl rfl rfl rfl) (by rfl) (by rfl) ?_)
        refine RL_pure (by exact wn0 rfl) (by rfl) (by rfl) (x_pick_f (v := .bool false) (by rfl) (by rfl)) ?_
        refine RL_nil ?_
        exact ⟨⟨congrArg Value.bool (Option.some.inj hm), rfl, rfl, rfl, rfl, rfl, trivial⟩, H⟩
       ·have hm := cond_t hbS hmS
        refine RL_pure (by exact wn1 rfl rfl rfl rfl) (by rfl) (by rfl) (x_move (v := .bool b119) (by rfl)) ?_
        refine RL_pure (by exact wn0 rfl) (by rfl) (by rfl) (x_pick_t (v := .bool b119) (by rfl) (by rfl)) ?_
        refine RL_nil ?_
        exact ⟨⟨congrArg Value.bool (Option.some.inj hm), rfl, rfl, rfl, rfl, rfl, trivial⟩, H⟩
      ·rintro r' w' ⟨hA, H⟩
       obtain ⟨r133, rfl⟩ := regen _ hA; clear hA
       obtain ⟨w134, rfl⟩ : ∃ W : World, W = w' := ⟨_, rfl⟩
       show RL _ _ _ _ _ _ _
       refine RL_pure (by exact wn0 rfl) (by rfl) (by rfl) (x_move (v := .bool b132) (by rfl)) ?_
       obtain ⟨b135, hmS, hm⟩ := bind_some hm
       refine RL_cut 3 (fun r' w' => Agr [(135, .bool b135), (16, .slice A85 v83.1.length cp86), (17, .int .i64 v83.2), (19, .int .i64 v89.2), (21, .int .i64 v95.2)] r' ∧ Sep ok w w' [.blk b10 79 [.slice A4 v2.1.Arena.Slots.length cp5, .slice A7 v2.1.Kids.length cp8], .blk b12 82 [.int .i64 v2.2.1.a0.Slot, .int .i64 v2.2.1.a0.Gen, .int .i64 v2.2.1.a1.Slot, .int .i64 v2.2.1.a1.Gen, .int .i64 v2.2.1.a2.Slot, .int .i64 v2.2.1.a2.Gen], .blk b25 79 [.slice A19 v17.1.Arena.Slots.length cp20, .slice A22 v17.1.Kids.length cp23], .blk b37 79 [.slice A31 v29.1.Arena.Slots.length cp32, .slice A34 v29.1.Kids.length cp35], .blk b49 79 [.slice A43 v41.1.Arena.Slots.length cp44, .slice A46 v41.1.Kids.length cp47], .blk b61 79 [.slice A55 v53.1.Arena.Slots.length cp56, .slice A58 v53.1.Kids.length cp59], .blk b79 79 [.slice A73 v71.1.Arena.Slots.length cp74, .slice A76 v71.1.Kids.length cp77], .blk b103 79 [.slice A97 v95.1.Arena.Slots.length cp98, .slice A100 v95.1.Kids.length cp101]] [RE.rd k_Slot A4 cp5 v2.1.Arena.Slots, RE.rd (Kd.slice k_Handle) A7 cp8 v2.1.Kids, RE.rd k_Slot A19 cp20 v17.1.Arena.Slots, RE.rd (Kd.slice k_Handle) A22 cp23 v17.1.Kids, RE.rd k_Slot A31 cp32 v29.1.Arena.Slots, RE.rd (Kd.slice k_Handle) A34 cp35 v29.1.Kids, RE.rd k_Slot A43 cp44 v41.1.Arena.Slots, RE.rd (Kd.slice k_Handle) A46 cp47 v41.1.Kids, RE.rd k_Slot A55 cp56 v53.1.Arena.Slots, RE.rd (Kd.slice k_Handle) A58 cp59 v53.1.Kids, RE.rd k_Handle A67 cp68 v65.1, RE.rd k_Slot A73 cp74 v71.1.Arena.Slots, RE.rd (Kd.slice k_Handle) A76 cp77 v71.1.Kids, RE.rd k_Handle A85 cp86 v83.1, RE.rd k_Handle A91 cp92 v89.1, RE.rd k_Slot A97 cp98 v95.1.Arena.Slots, RE.rd (Kd.slice k_Handle) A100 cp101 v95.1.Kids]) ?_ ?_
       ·cases hbS : b132
        ·have hm := cond_f hbS hmS
         refine RL_cons (OpR_off (by exact wn2 rfl rfl rfl rfl) (by rfl) (by rfl) ?_)
         refine RL_cons (OpR_off (by exact wn2 rfl rfl rfl rfl) (by rfl) (by rfl) ?_)
         refine RL_pure (by exact wn0 rfl) (by rfl) (by rfl) (x_pick_f (v := .bool false) (by rfl) (by rfl)) ?_
         refine RL_nil ?_
         exact ⟨⟨congrArg Value.bool (Option.some.inj hm), rfl, rfl, rfl, rfl, trivial⟩, H⟩
        ·have hm := cond_t hbS hmS
         refine RL_pure (by exact wn1 rfl rfl rfl rfl) (by rfl) (by rfl) (x_move (v := .int .i64 v71.2) (by rfl)) ?_
         refine RL_pure (by exact wn1 rfl rfl rfl rfl) (by rfl) (by rfl) (x_eql (by rfl) (by rfl)) ?_
         refine RL_pure (by exact wn0 rfl) (by rfl) (by rfl) (x_pick_t (v := .bool (v71.2 == 0)) (by rfl) (by rfl)) ?_
         refine RL_nil ?_
         exact ⟨⟨congrArg Value.bool (Option.some.inj hm), rfl, rfl, rfl, rfl, trivial⟩, H⟩
       ·rintro r' w' ⟨hA, H⟩
        obtain ⟨r136, rfl⟩ := regen _ hA; clear hA
        obtain ⟨w137, rfl⟩ : ∃ W : World, W = w' := ⟨_, rfl⟩
        show RL _ _ _ _ _ _ _
        refine RL_pure (by exact wn0 rfl) (by rfl) (by rfl) (x_move (v := .bool b135) (by rfl)) ?_
        obtain ⟨b138, hmS, hm⟩ := bind_some hm
        refine RL_cut 4 (fun r' w' => Agr [(140, .bool b138), (17, .int .i64 v83.2), (19, .int .i64 v89.2), (21, .int .i64 v95.2)] r' ∧ Sep ok w w' [.blk b10 79 [.slice A4 v2.1.Arena.Slots.length cp5, .slice A7 v2.1.Kids.length cp8], .blk b12 82 [.int .i64 v2.2.1.a0.Slot, .int .i64 v2.2.1.a0.Gen, .int .i64 v2.2.1.a1.Slot, .int .i64 v2.2.1.a1.Gen, .int .i64 v2.2.1.a2.Slot, .int .i64 v2.2.1.a2.Gen], .blk b25 79 [.slice A19 v17.1.Arena.Slots.length cp20, .slice A22 v17.1.Kids.length cp23], .blk b37 79 [.slice A31 v29.1.Arena.Slots.length cp32, .slice A34 v29.1.Kids.length cp35], .blk b49 79 [.slice A43 v41.1.Arena.Slots.length cp44, .slice A46 v41.1.Kids.length cp47], .blk b61 79 [.slice A55 v53.1.Arena.Slots.length cp56, .slice A58 v53.1.Kids.length cp59], .blk b79 79 [.slice A73 v71.1.Arena.Slots.length cp74, .slice A76 v71.1.Kids.length cp77], .blk b103 79 [.slice A97 v95.1.Arena.Slots.length cp98, .slice A100 v95.1.Kids.length cp101]] [RE.rd k_Slot A4 cp5 v2.1.Arena.Slots, RE.rd (Kd.slice k_Handle) A7 cp8 v2.1.Kids, RE.rd k_Slot A19 cp20 v17.1.Arena.Slots, RE.rd (Kd.slice k_Handle) A22 cp23 v17.1.Kids, RE.rd k_Slot A31 cp32 v29.1.Arena.Slots, RE.rd (Kd.slice k_Handle) A34 cp35 v29.1.Kids, RE.rd k_Slot A43 cp44 v41.1.Arena.Slots, RE.rd (Kd.slice k_Handle) A46 cp47 v41.1.Kids, RE.rd k_Slot A55 cp56 v53.1.Arena.Slots, RE.rd (Kd.slice k_Handle) A58 cp59 v53.1.Kids, RE.rd k_Handle A67 cp68 v65.1, RE.rd k_Slot A73 cp74 v71.1.Arena.Slots, RE.rd (Kd.slice k_Handle) A76 cp77 v71.1.Kids, RE.rd k_Handle A85 cp86 v83.1, RE.rd k_Handle A91 cp92 v89.1, RE.rd k_Slot A97 cp98 v95.1.Arena.Slots, RE.rd (Kd.slice k_Handle) A100 cp101 v95.1.Kids]) ?_ ?_
        ·cases hbS : b135
         ·have hm := cond_f hbS hmS
          refine RL_cons (OpR_off (by exact wn2 rfl rfl rfl rfl) (by rfl) (by rfl) ?_)
          refine RL_cons (OpR_off (by exact wn2 rfl rfl rfl rfl) (by rfl) (by rfl) ?_)
          refine RL_cons (OpR_off (by exact wn2 rfl rfl rfl rfl) (by rfl) (by rfl) ?_)
          refine RL_pure (by exact wn0 rfl) (by rfl) (by rfl) (x_pick_f (v := .bool false) (by rfl) (by rfl)) ?_
          refine RL_nil ?_
          exact ⟨⟨congrArg Value.bool (Option.some.inj hm), rfl, rfl, rfl, trivial⟩, H⟩
         ·have hm := cond_t hbS hmS
          refine RL_pure (by exact wn1 rfl rfl rfl rfl) (by rfl) (by rfl) (x_move (v := .slice A85 v83.1.length cp86) (by rfl)) ?_
          refine RL_pure (by exact wn1 rfl rfl rfl rfl) (by rfl) (by rfl) (x_len sl87 (by rfl)) ?_
          refine RL_pure (by exact wn1 rfl rfl rfl rfl) (by rfl) (by rfl) (x_eql (by rfl) (by rfl)) ?_
          refine RL_pure (by exact wn0 rfl) (by rfl) (by rfl) (x_pick_t (v := .bool ((v83.1.length : Int) == 0)) (by rfl) (by rfl)) ?_
          refine RL_nil ?_
          exact ⟨⟨congrArg Value.bool (Option.some.inj hm), rfl, rfl, rfl, trivial⟩, H⟩
        ·rintro r' w' ⟨hA, H⟩
         obtain ⟨r139, rfl⟩ := regen _ hA; clear hA
         obtain ⟨w140, rfl⟩ : ∃ W : World, W = w' := ⟨_, rfl⟩
         show RL _ _ _ _ _ _ _
         refine RL_pure (by exact wn0 rfl) (by rfl) (by rfl) (x_move (v := .bool b138) (by rfl)) ?_
         obtain ⟨b141, hmS, hm⟩ := bind_some hm
         refine RL_cut 3 (fun r' w' => Agr [(144, .bool b141), (19, .int .i64 v89.2), (21, .int .i64 v95.2)] r' ∧ Sep ok w w' [.blk b10 79 [.slice A4 v2.1.Arena.Slots.length cp5, .slice A7 v2.1.Kids.length cp8], .blk b12 82 [.int .i64 v2.2.1.a0.Slot, .int .i64 v2.2.1.a0.Gen, .int .i64 v2.2.1.a1.Slot, .int .i64 v2.2.1.a1.Gen, .int .i64 v2.2.1.a2.Slot, .int .i64 v2.2.1.a2.Gen], .blk b25 79 [.slice A19 v17.1.Arena.Slots.length cp20, .slice A22 v17.1.Kids.length cp23], .blk b37 79 [.slice A31 v29.1.Arena.Slots.length cp32, .slice A34 v29.1.Kids.length cp35], .blk b49 79 [.slice A43 v41.1.Arena.Slots.length cp44, .slice A46 v41.1.Kids.length cp47], .blk b61 79 [.slice A55 v53.1.Arena.Slots.length cp56, .slice A58 v53.1.Kids.length cp59], .blk b79 79 [.slice A73 v71.1.Arena.Slots.length cp74, .slice A76 v71.1.Kids.length cp77], .blk b103 79 [.slice A97 v95.1.Arena.Slots.length cp98, .slice A100 v95.1.Kids.length cp101]] [RE.rd k_Slot A4 cp5 v2.1.Arena.Slots, RE.rd (Kd.slice k_Handle) A7 cp8 v2.1.Kids, RE.rd k_Slot A19 cp20 v17.1.Arena.Slots, RE.rd (Kd.slice k_Handle) A22 cp23 v17.1.Kids, RE.rd k_Slot A31 cp32 v29.1.Arena.Slots, RE.rd (Kd.slice k_Handle) A34 cp35 v29.1.Kids, RE.rd k_Slot A43 cp44 v41.1.Arena.Slots, RE.rd (Kd.slice k_Handle) A46 cp47 v41.1.Kids, RE.rd k_Slot A55 cp56 v53.1.Arena.Slots, RE.rd (Kd.slice k_Handle) A58 cp59 v53.1.Kids, RE.rd k_Handle A67 cp68 v65.1, RE.rd k_Slot A73 cp74 v71.1.Arena.Slots, RE.rd (Kd.slice k_Handle) A76 cp77 v71.1.Kids, RE.rd k_Handle A85 cp86 v83.1, RE.rd k_Handle A91 cp92 v89.1, RE.rd k_Slot A97 cp98 v95.1.Arena.Slots, RE.rd (Kd.slice k_Handle) A100 cp101 v95.1.Kids]) ?_ ?_
         ·cases hbS : b138
          ·have hm := cond_f hbS hmS
           refine RL_cons (OpR_off (by exact wn2 rfl rfl rfl rfl) (by rfl) (by rfl) ?_)
           refine RL_cons (OpR_off (by exact wn2 rfl rfl rfl rfl) (by rfl) (by rfl) ?_)
           refine RL_pure (by exact wn0 rfl) (by rfl) (by rfl) (x_pick_f (v := .bool false) (by rfl) (by rfl)) ?_
           refine RL_nil ?_
           exact ⟨⟨congrArg Value.bool (Option.some.inj hm), rfl, rfl, trivial⟩, H⟩
          ·have hm := cond_t hbS hmS
           refine RL_pure (by exact wn1 rfl rfl rfl rfl) (by rfl) (by rfl) (x_move (v := .int .i64 v83.2) (by rfl)) ?_
           refine RL_pure (by exact wn1 rfl rfl rfl rfl) (by rfl) (by rfl) (x_eql (by rfl) (by rfl)) ?_
           refine RL_pure (by exact wn0 rfl) (by rfl) (by rfl) (x_pick_t (v := .bool (v83.2 == 0)) (by rfl) (by rfl)) ?_
           refine RL_nil ?_
           exact ⟨⟨congrArg Value.bool (Option.some.inj hm), rfl, rfl, trivial⟩, H⟩
         ·rintro r' w' ⟨hA, H⟩
          obtain ⟨r142, rfl⟩ := regen _ hA; clear hA
          obtain ⟨w143, rfl⟩ : ∃ W : World, W = w' := ⟨_, rfl⟩
          show RL _ _ _ _ _ _ _
          refine RL_pure (by exact wn0 rfl) (by rfl) (by rfl) (x_move (v := .bool b141) (by rfl)) ?_
          obtain ⟨b144, hmS, hm⟩ := bind_some hm
          refine RL_cut 3 (fun r' w' => Agr [(148, .bool b144), (21, .int .i64 v95.2)] r' ∧ Sep ok w w' [.blk b10 79 [.slice A4 v2.1.Arena.Slots.length cp5, .slice A7 v2.1.Kids.length cp8], .blk b12 82 [.int .i64 v2.2.1.a0.Slot, .int .i64 v2.2.1.a0.Gen, .int .i64 v2.2.1.a1.Slot, .int .i64 v2.2.1.a1.Gen, .int .i64 v2.2.1.a2.Slot, .int .i64 v2.2.1.a2.Gen], .blk b25 79 [.slice A19 v17.1.Arena.Slots.length cp20, .slice A22 v17.1.Kids.length cp23], .blk b37 79 [.slice A31 v29.1.Arena.Slots.length cp32, .slice A34 v29.1.Kids.length cp35], .blk b49 79 [.slice A43 v41.1.Arena.Slots.length cp44, .slice A46 v41.1.Kids.length cp47], .blk b61 79 [.slice A55 v53.1.Arena.Slots.length cp56, .slice A58 v53.1.Kids.length cp59], .blk b79 79 [.slice A73 v71.1.Arena.Slots.length cp74, .slice A76 v71.1.Kids.length cp77], .blk b103 79 [.slice A97 v95.1.Arena.Slots.length cp98, .slice A100 v95.1.Kids.length cp101]] [RE.rd k_Slot A4 cp5 v2.1.Arena.Slots, RE.rd (Kd.slice k_Handle) A7 cp8 v2.1.Kids, RE.rd k_Slot A19 cp20 v17.1.Arena.Slots, RE.rd (Kd.slice k_Handle) A22 cp23 v17.1.Kids, RE.rd k_Slot A31 cp32 v29.1.Arena.Slots, RE.rd (Kd.slice k_Handle) A34 cp35 v29.1.Kids, RE.rd k_Slot A43 cp44 v41.1.Arena.Slots, RE.rd (Kd.slice k_Handle) A46 cp47 v41.1.Kids, RE.rd k_Slot A55 cp56 v53.1.Arena.Slots, RE.rd (Kd.slice k_Handle) A58 cp59 v53.1.Kids, RE.rd k_Handle A67 cp68 v65.1, RE.rd k_Slot A73 cp74 v71.1.Arena.Slots, RE.rd (Kd.slice k_Handle) A76 cp77 v71.1.Kids, RE.rd k_Handle A85 cp86 v83.1, RE.rd k_Handle A91 cp92 v89.1, RE.rd k_Slot A97 cp98 v95.1.Arena.Slots, RE.rd (Kd.slice k_Handle) A100 cp101 v95.1.Kids]) ?_ ?_
          ·cases hbS : b141
           ·have hm := cond_f hbS hmS
            refine RL_cons (OpR_off (by exact wn2 rfl rfl rfl rfl) (by rfl) (by rfl) ?_)
            refine RL_cons (OpR_off (by exact wn2 rfl rfl rfl rfl) (by rfl) (by rfl) ?_)
            refine RL_pure (by exact wn0 rfl) (by rfl) (by rfl) (x_pick_f (v := .bool false) (by rfl) (by rfl)) ?_
            refine RL_nil ?_
            exact ⟨⟨congrArg Value.bool (Option.some.inj hm), rfl, trivial⟩, H⟩
           ·have hm := cond_t hbS hmS
            refine RL_pure (by exact wn1 rfl rfl rfl rfl) (by rfl) (by rfl) (x_move (v := .int .i64 v89.2) (by rfl)) ?_
            refine RL_pure (by exact wn1 rfl rfl rfl rfl) (by rfl) (by rfl) (x_eql (by rfl) (by rfl)) ?_
            refine RL_pure (by exact wn0 rfl) (by rfl) (by rfl) (x_pick_t (v := .bool (v89.2 == 50)) (by rfl) (by rfl)) ?_
            refine RL_nil ?_
            exact ⟨⟨congrArg Value.bool (Option.some.inj hm), rfl, trivial⟩, H⟩
          ·rintro r' w' ⟨hA, H⟩
           obtain ⟨r145, rfl⟩ := regen _ hA; clear hA
           obtain ⟨w146, rfl⟩ : ∃ W : World, W = w' := ⟨_, rfl⟩
           show RL _ _ _ _ _ _ _
           refine RL_pure (by exact wn0 rfl) (by rfl) (by rfl) (x_move (v := .bool b144) (by rfl)) ?_
           obtain ⟨b147, hmS, hm⟩ := bind_some hm
           refine RL_cut 3 (fun r' w' => Agr [(152, .bool b147)] r' ∧ Sep ok w w' [.blk b10 79 [.slice A4 v2.1.Arena.Slots.length cp5, .slice A7 v2.1.Kids.length cp8], .blk b12 82 [.int .i64 v2.2.1.a0.Slot, .int .i64 v2.2.1.a0.Gen, .int .i64 v2.2.1.a1.Slot, .int .i64 v2.2.1.a1.Gen, .int .i64 v2.2.1.a2.Slot, .int .i64 v2.2.1.a2.Gen], .blk b25 79 [.slice A19 v17.1.Arena.Slots.length cp20, .slice A22 v17.1.Kids.length cp23], .blk b37 79 [.slice A31 v29.1.Arena.Slots.length cp32, .slice A34 v29.1.Kids.length cp35], .blk b49 79 [.slice A43 v41.1.Arena.Slots.length cp44, .slice A46 v41.1.Kids.length cp47], .blk b61 79 [.slice A55 v53.1.Arena.Slots.length cp56, .slice A58 v53.1.Kids.length cp59], .blk b79 79 [.slice A73 v71.1.Arena.Slots.length cp74, .slice A76 v71.1.Kids.length cp77], .blk b103 79 [.slice A97 v95.1.Arena.Slots.length cp98, .slice A100 v95.1.Kids.length cp101]] [RE.rd k_Slot A4 cp5 v2.1.Arena.Slots, RE.rd (Kd.slice k_Handle) A7 cp8 v2.1.Kids, RE.rd k_Slot A19 cp20 v17.1.Arena.Slots, RE.rd (Kd.slice k_Handle) A22 cp23 v17.1.Kids, RE.rd k_Slot A31 cp32 v29.1.Arena.Slots, RE.rd (Kd.slice k_Handle) A34 cp35 v29.1.Kids, RE.rd k_Slot A43 cp44 v41.1.Arena.Slots, RE.rd (Kd.slice k_Handle) A46 cp47 v41.1.Kids, RE.rd k_Slot A55 cp56 v53.1.Arena.Slots, RE.rd (Kd.slice k_Handle) A58 cp59 v53.1.Kids, RE.rd k_Handle A67 cp68 v65.1, RE.rd k_Slot A73 cp74 v71.1.Arena.Slots, RE.rd (Kd.slice k_Handle) A76 cp77 v71.1.Kids, RE.rd k_Handle A85 cp86 v83.1, RE.rd k_Handle A91 cp92 v89.1, RE.rd k_Slot A97 cp98 v95.1.Arena.Slots, RE.rd (Kd.slice k_Handle) A100 cp101 v95.1.Kids]) ?_ ?_
           ·cases hbS : b144
            ·have hm := cond_f hbS hmS
             refine RL_cons (OpR_off (by exact wn2 rfl rfl rfl rfl) (by rfl) (by rfl) ?_)
             refine RL_cons (OpR_off (by exact wn2 rfl rfl rfl rfl) (by rfl) (by rfl) ?_)
             refine RL_pure (by exact wn0 rfl) (by rfl) (by rfl) (x_pick_f (v := .bool false) (by rfl) (by rfl)) ?_
             refine RL_nil ?_
             exact ⟨⟨congrArg Value.bool (Option.some.inj hm), trivial⟩, H⟩
            ·have hm := cond_t hbS hmS
             refine RL_pure (by exact wn1 rfl rfl rfl rfl) (by rfl) (by rfl) (x_move (v := .int .i64 v95.2) (by rfl)) ?_
             refine RL_pure (by exact wn1 rfl rfl rfl rfl) (by rfl) (by rfl) (x_eql (by rfl) (by rfl)) ?_
             refine RL_pure (by exact wn0 rfl) (by rfl) (by rfl) (x_pick_t (v := .bool (v95.2 == 2)) (by rfl) (by rfl)) ?_
             refine RL_nil ?_
             exact ⟨⟨congrArg Value.bool (Option.some.inj hm), trivial⟩, H⟩
           ·rintro r' w' ⟨hA, H⟩
            obtain ⟨r148, rfl⟩ := regen _ hA; clear hA
            obtain ⟨w149, rfl⟩ : ∃ W : World, W = w' := ⟨_, rfl⟩
            show RL _ _ _ _ _ _ _
            refine RL_pure (by exact wn0 rfl) (by rfl) (by rfl) (x_move (v := .bool b147) (by rfl)) ?_
            obtain ⟨b150, hmS, hm⟩ := bind_some hm
            refine RL_cut 5 (fun r' w' => Agr [(158, .bool b150)] r' ∧ Sep ok w w' [.blk b10 79 [.slice A4 v2.1.Arena.Slots.length cp5, .slice A7 v2.1.Kids.length cp8], .blk b12 82 [.int .i64 v2.2.1.a0.Slot, .int .i64 v2.2.1.a0.Gen, .int .i64 v2.2.1.a1.Slot, .int .i64 v2.2.1.a1.Gen, .int .i64 v2.2.1.a2.Slot, .int .i64 v2.2.1.a2.Gen], .blk b25 79 [.slice A19 v17.1.Arena.Slots.length cp20, .slice A22 v17.1.Kids.length cp23], .blk b37 79 [.slice A31 v29.1.Arena.Slots.length cp32, .slice A34 v29.1.Kids.length cp35], .blk b49 79 [.slice A43 v41.1.Arena.Slots.length cp44, .slice A46 v41.1.Kids.length cp47], .blk b61 79 [.slice A55 v53.1.Arena.Slots.length cp56, .slice A58 v53.1.Kids.length cp59], .blk b79 79 [.slice A73 v71.1.Arena.Slots.length cp74, .slice A76 v71.1.Kids.length cp77], .blk b103 79 [.slice A97 v95.1.Arena.Slots.length cp98, .slice A100 v95.1.Kids.length cp101]] [RE.rd k_Slot A4 cp5 v2.1.Arena.Slots, RE.rd (Kd.slice k_Handle) A7 cp8 v2.1.Kids, RE.rd k_Slot A19 cp20 v17.1.Arena.Slots, RE.rd (Kd.slice k_Handle) A22 cp23 v17.1.Kids, RE.rd k_Slot A31 cp32 v29.1.Arena.Slots, RE.rd (Kd.slice k_Handle) A34 cp35 v29.1.Kids, RE.rd k_Slot A43 cp44 v41.1.Arena.Slots, RE.rd (Kd.slice k_Handle) A46 cp47 v41.1.Kids, RE.rd k_Slot A55 cp56 v53.1.Arena.Slots, RE.rd (Kd.slice k_Handle) A58 cp59 v53.1.Kids, RE.rd k_Handle A67 cp68 v65.1, RE.rd k_Slot A73 cp74 v71.1.Arena.Slots, RE.rd (Kd.slice k_Handle) A76 cp77 v71.1.Kids, RE.rd k_Handle A85 cp86 v83.1, RE.rd k_Handle A91 cp92 v89.1, RE.rd k_Slot A97 cp98 v95.1.Arena.Slots, RE.rd (Kd.slice k_Handle) A100 cp101 v95.1.Kids]) ?_ ?_
            ·cases hbS : b147
             ·have hm := cond_f hbS hmS
              refine RL_cons (OpR_off (by exact wn2 rfl rfl rfl rfl) (by rfl) (by rfl) ?_)
              refine RL_cons (OpR_off (by exact wn2 rfl rfl rfl rfl) (by rfl) (by rfl) ?_)
              refine RL_cons (OpR_off (by exact wn2 rfl rfl rfl rfl) (by rfl) (by rfl) ?_)
              refine RL_cons (OpR_off (by exact wn2 rfl rfl rfl rfl) (by rfl) (by rfl) ?_)
              refine RL_pure (by exact wn0 rfl) (by rfl) (by rfl) (x_pick_f (v := .bool false) (by rfl) (by rfl)) ?_
              refine RL_nil ?_
              exact ⟨⟨congrArg Value.bool (Option.some.inj hm), trivial⟩, H⟩
             ·have hm := cond_t hbS hmS
              obtain ⟨l154, h156, hl155, hb157, hm⟩ := mks_some hm
              refine RL_cons (O_makeSlice (D := (Kd.slice k_Handle)) (x0 := []) (by exact wn1 rfl rfl rfl rfl) (by rfl) (by rfl) (by rfl) sl77 sz87 by87 ze87 (by rfl) (by intro w ok; exact ⟨none, 0, rfl, Rd.nil (by decide)⟩) h156 hl155 hb157 H (by rfl) (fun w151 b152 cs153 (H : Sep ok w w151 [.blk b10 79 [.slice A4 v2.1.Arena.Slots.length cp5, .slice A7 v2.1.Kids.length cp8], .blk b12 82 [.int .i64 v2.2.1.a0.Slot, .int .i64 v2.2.1.a0.Gen, .int .i64 v2.2.1.a1.Slot, .int .i64 v2.2.1.a1.Gen, .int .i64 v2.2.1.a2.Slot, .int .i64 v2.2.1.a2.Gen], .blk b25 79 [.slice A19 v17.1.Arena.Slots.length cp20, .slice A22 v17.1.Kids.length cp23], .blk b37 79 [.slice A31 v29.1.Arena.Slots.length cp32, .slice A34 v29.1.Kids.length cp35], .blk b49 79 [.slice A43 v41.1.Arena.Slots.length cp44, .slice A46 v41.1.Kids.length cp47], .blk b61 79 [.slice A55 v53.1.Arena.Slots.length cp56, .slice A58 v53.1.Kids.length cp59], .blk b79 79 [.slice A73 v71.1.Arena.Slots.length cp74, .slice A76 v71.1.Kids.length cp77], .blk b103 79 [.slice A97 v95.1.Arena.Slots.length cp98, .slice A100 v95.1.Kids.length cp101], .row (.slice (some ⟨b152, 0, none⟩) l154.length l154.length) 87 (Kd.slice k_Handle).sz l154.length cs153] [RE.rd k_Slot A4 cp5 v2.1.Arena.Slots, RE.rd (Kd.slice k_Handle) A7 cp8 v2.1.Kids, RE.rd k_Slot A19 cp20 v17.1.Arena.Slots, RE.rd (Kd.slice k_Handle) A22 cp23 v17.1.Kids, RE.rd k_Slot A31 cp32 v29.1.Arena.Slots, RE.rd (Kd.slice k_Handle) A34 cp35 v29.1.Kids, RE.rd k_Slot A43 cp44 v41.1.Arena.Slots, RE.rd (Kd.slice k_Handle) A46 cp47 v41.1.Kids, RE.rd k_Slot A55 cp56 v53.1.Arena.Slots, RE.rd (Kd.slice k_Handle) A58 cp59 v53.1.Kids, RE.rd k_Handle A67 cp68 v65.1, RE.rd k_Slot A73 cp74 v71.1.Arena.Slots, RE.rd (Kd.slice k_Handle) A76 cp77 v71.1.Kids, RE.rd k_Handle A85 cp86 v83.1, RE.rd k_Handle A91 cp92 v89.1, RE.rd k_Slot A97 cp98 v95.1.Arena.Slots, RE.rd (Kd.slice k_Handle) A100 cp101 v95.1.Kids, RE.chunks (Kd.slice k_Handle) cs153 l154]) => ?_))
              refine RL_pure (by exact wn1 rfl rfl rfl rfl) (by rfl) (by rfl) (x_build (vs := [(1, .slice (some ⟨b152, 0, none⟩) l154.length l154.length)]) (cs := [.slice none 0 0, .slice (some ⟨b152, 0, none⟩) l154.length l154.length]) (by rfl) (by kernel_rfl)) ?_
              obtain ⟨v161, hv160, hm⟩ := bind_some hm
              refine RL_cons (O_call (by exact wn1 rfl rfl rfl rfl) (by rfl) (by rfl) (x_callL (by rfl) (args := [.agg #[.slice none 0 0, .slice (some ⟨b152, 0, none⟩) l154.length l154.length]]) (by rfl) (cf43 _ _)) (c43 okT K w151 (⟨(⟨[]⟩ : S_Arena), l154⟩ : S_Graph) none 0 (some ⟨b152, 0, none⟩) l154.length (Rd.nil (by decide)) (H.rowRd (i := 8) (j := 17) (by rfl) (by rfl)) v161 hv160) ?_)
              rintro e w162 ⟨rfl, H2⟩
              have H : Sep ok w w162 [.blk b10 79 [.slice A4 v2.1.Arena.Slots.length cp5, .slice A7 v2.1.Kids.length cp8], .blk b12 82 [.int .i64 v2.2.1.a0.Slot, .int .i64 v2.2.1.a0.Gen, .int .i64 v2.2.1.a1.Slot, .int .i64 v2.2.1.a1.Gen, .int .i64 v2.2.1.a2.Slot, .int .i64 v2.2.1.a2.Gen], .blk b25 79 [.slice A19 v17.1.Arena.Slots.length cp20, .slice A22 v17.1.Kids.length cp23], .blk b37 79 [.slice A31 v29.1.Arena.Slots.length cp32, .slice A34 v29.1.Kids.length cp35], .blk b49 79 [.slice A43 v41.1.Arena.Slots.length cp44, .slice A46 v41.1.Kids.length cp47], .blk b61 79 [.slice A55 v53.1.Arena.Slots.length cp56, .slice A58 v53.1.Kids.length cp59], .blk b79 79 [.slice A73 v71.1.Arena.Slots.length cp74, .slice A76 v71.1.Kids.length cp77], .blk b103 79 [.slice A97 v95.1.Arena.Slots.length cp98, .slice A100 v95.1.Kids.length cp101], .row (.slice (some ⟨b152, 0, none⟩) l154.length l154.length) 87 (Kd.slice k_Handle).sz l154.length cs153] [RE.rd k_Slot A4 cp5 v2.1.Arena.Slots, RE.rd (Kd.slice k_Handle) A7 cp8 v2.1.Kids, RE.rd k_Slot A19 cp20 v17.1.Arena.Slots, RE.rd (Kd.slice k_Handle) A22 cp23 v17.1.Kids, RE.rd k_Slot A31 cp32 v29.1.Arena.Slots, RE.rd (Kd.slice k_Handle) A34 cp35 v29.1.Kids, RE.rd k_Slot A43 cp44 v41.1.Arena.Slots, RE.rd (Kd.slice k_Handle) A46 cp47 v41.1.Kids, RE.rd k_Slot A55 cp56 v53.1.Arena.Slots, RE.rd (Kd.slice k_Handle) A58 cp59 v53.1.Kids, RE.rd k_Handle A67 cp68 v65.1, RE.rd k_Slot A73 cp74 v71.1.Arena.Slots, RE.rd (Kd.slice k_Handle) A76 cp77 v71.1.Kids, RE.rd k_Handle A85 cp86 v83.1, RE.rd k_Handle A91 cp92 v89.1, RE.rd k_Slot A97 cp98 v95.1.Arena.Slots, RE.rd (Kd.slice k_Handle) A100 cp101 v95.1.Kids, RE.chunks (Kd.slice k_Handle) cs153 l154] := H.below H2.base
              clear H2
              refine ⟨_, rfl, ?_⟩
              show RL _ _ _ _ _ _ _
              refine RL_pure (by exact wn1 rfl rfl rfl rfl) (by rfl) (by rfl) (x_eql (by rfl) (by rfl)) ?_
              refine RL_pure (by exact wn0 rfl) (by rfl) (by rfl) (x_pick_t (v := .bool (v161 == 8)) (by rfl) (by rfl)) ?_
              refine RL_nil ?_
              exact ⟨⟨congrArg Value.bool (Option.some.inj hm), trivial⟩, (H.takeL 8).takeR 17⟩
            ·rintro r' w' ⟨hA, H⟩
             obtain ⟨r163, rfl⟩ := regen _ hA; clear hA
             obtain ⟨w164, rfl⟩ : ∃ W : World, W = w' := ⟨_, rfl⟩
             show RL _ _ _ _ _ _ _
             refine RL_pure (by exact wn0 rfl) (by rfl) (by rfl) (x_assign (v := .bool b150) (by rfl)) ?_
             refine RL_nil ?_
             refine W_ret ?_
             obtain rfl := Option.some.inj hm
             exact ⟨[.bool b150], (.tmp (by rfl) rfl), rfl, H.none_⟩
end Go.Proofs.YtobkigllalbkiaaV.M

set_option linter.unusedVariables false
namespace Go.Proofs.Ytobkigllalbkiaa.NodesNamesLaw
open Go.ChangeShapes Go.WideShapes Go.ChangeAt Go.RowKit Go.Proofs.YtobkigllalbkiaaV

theorem own : ownKnob Try.prog.godebug = none := by kernel_rfl
theorem said : M.m8 100 = some true := by kernel_rfl
theorem walk (w : World) : Calls Try.prog 8 #[] w fun e w' => e = .returned (.bool true) ∧ Below w.heap.size w w' :=
  (M.c8 okT 100 w true said).mono fun e w' h => ⟨h.1, h.2.base⟩

set_option maxRecDepth 100000 in
theorem lifted (os : Os) (started : os.Started) (H : Type) (enc : TypeId × Value → H) :
    ReturnsInHanded {} Try.checked os 8 .any (Rows.nodesNamesSpec.pre6 enc Try.prog Try.f8 Rows.nodesNamesRow.domain false) (Rows.nodesNamesSpec.post enc Try.prog Try.f8 false true false false) := by
  refine returnsInHanded_of_change (C := Try.checked) own started (by kernel_rfl) Try.func8
    (ChangeSpec.witness6 (enc := enc) (C := Try.checked) false ⟨#[], #[], []⟩ 8 (by kernel_rfl) (by kernel_rfl) (by kernel_rfl) (by kernel_rfl)) ?_
  intro W base args ds gs before hval0 hW hcnd _
  have hW' := hW
  obtain ⟨p, q, hA0, hV, rfl, hfz, hnd⟩ := hW
  have hA : DataW.TrodAll enc Try.prog W 0 (fun _ => true) true Try.f8.params.toList args.toList ds p := hA0
  rw [Try.params8] at hA
  obtain ⟨rfl, rfl, rfl⟩ := trodAll_none hA
  obtain ⟨rfl, rfl⟩ := trodVars_none hV
  clear hA0 hval0
  simp only [List.append_nil] at hW'
  refine (walk W).mono fun e W' ⟨he, hg⟩ => ?_
  subst he
  exact ⟨_, rfl, post_below (pa := []) (pv := []) hW' (fun _ _ _ => (trodAll_cons_mk (shut_bool Try.underlying4 _) trodAll_mk0)) (fun sp _ => rfl) (fun _ _ => rfl) rfl hg
    (ok_one (by kernel_rfl) rfl (okWide_bool_mk Try.underlying4 _))⟩
theorem over : Rows.nodesNamesRow.holds Try.pinned (OpenSpec.ofChange Rows.nodesNamesSpec) :=
  OpenClaim.holds_of_wide 8 Try.f8 rfl rfl rfl rfl rfl rfl rfl ⟨rfl, rfl, rfl, rfl, rfl⟩ rfl rfl rfl rfl rfl (by kernel_rfl) Try.func8 (by kernel_rfl)
    (of_decide_eq_true (by kernel_rfl)) (by unfold Func.isWrapper; first | (rw [if_pos (by decide +kernel)]; kernel_rfl) | (rw [if_neg (by decide +kernel)]; exact ⟨rfl, rfl⟩))
    (fun os started H enc _ => lifted os started H enc)
end Go.Proofs.Ytobkigllalbkiaa.NodesNamesLaw
namespace Go.Proofs.Ytobkigllalbkiaa
/-- The statement. -/
theorem nodesNames_proved : Rows.NodesNamesSaid := NodesNamesLaw.over
#print axioms nodesNames_proved
end Go.Proofs.Ytobkigllalbkiaa
