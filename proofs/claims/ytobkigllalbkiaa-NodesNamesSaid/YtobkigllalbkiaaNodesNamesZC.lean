/- Part 3 of the texts that the proof of NodesNames stands on. -/
import Derived.Test.YtobkigllalbkiaaNodesNamesZB
/- A plain Lean function that answers as the Go function does (none: not told), and the proof that a call answers so. Written by program. -/
set_option linter.unusedVariables false
namespace Go.Proofs.YtobkigllalbkiaaV.M
open Go.RowKit Go.Proofs.YtobkigllalbkiaaV
def m79_l1b (K : Nat) (a0 : S_Graph) (a1 : (List S_Handle)) (rec1 : Int → Option (Int)) (y15_1 : Int) : Option (Int) :=
 (bif (decide (y15_1 < (a1.length : Int))) then (idx a1 y15_1 fun el20 => ((m90 K a0.Arena el20).bind fun v31 => (bif (!v31) then some 50 else (ck (y15_1 + 1) fun x33 => (rec1 x33))))) else some 0)
def m79_l1 (K : Nat) (a0 : S_Graph) (a1 : (List S_Handle)) : Nat → Int → Option (Int)
 | 0 => fun _ => none
 | k + 1 => m79_l1b K a0 a1 (m79_l1 K a0 a1 k)
/-- diorama/nodes.asked -/
def m79 (K : Nat) (a0 : S_Graph) (a1 : (List S_Handle)) : Option (Int) :=
 ((m43 K a0).bind fun v16 => (bif (v16 != 0) then some v16 else m79_l1 K a0 a1 K 0))
set_option maxRecDepth 100000 in
set_option maxHeartbeats 4000000 in
theorem c79 (ok : Okp) (K : Nat) (w : World) (a0 : S_Graph) (A1 : Option Addr) (cp2 : Nat) (A5 : Option Addr) (cp6 : Nat) (a1 : (List S_Handle)) (A9 : Option Addr) (cp10 : Nat) (hR3 : Rd k_Slot w ok A1 cp2 a0.Arena.Slots) (hR7 : Rd (Kd.slice k_Handle) w ok A5 cp6 a0.Kids) (hR11 : Rd k_Handle w ok A9 cp10 a1) (res : Int) (hm : m79 K a0 a1 = some res) :
  Calls Try.prog 79 #[.agg #[.slice A1 a0.Arena.Slots.length cp2, .slice A5 a0.Kids.length cp6], .slice A9 a1.length cp10] w (fun e w' => e = .returned (tup [.int .i64 res]) ∧ Sep ok w w' [] []) := by
 refine calls_W (args := [.agg #[.slice A1 a0.Arena.Slots.length cp2, .slice A5 a0.Kids.length cp6], .slice A9 a1.length cp10]) Try.func79 rfl Try.ntmps79 Try.results79 rfl fun r hr => ?_
 obtain ⟨r1, rfl⟩ := regen (r := r) [(0, .agg #[.slice A1 a0.Arena.Slots.length cp2, .slice A5 a0.Kids.length cp6]), (1, .slice A9 a1.length cp10)] ⟨hr 0 _ rfl, hr 1 _ rfl, trivial⟩
 have H : Sep ok w w [] [RE.rd k_Slot A1 cp2 a0.Arena.Slots, RE.rd (Kd.slice k_Handle) A5 cp6 a0.Kids, RE.rd k_Handle A9 cp10 a1] := Sep.arg (Sep.arg (Sep.arg (Sep.start ok w) (re := RE.rd k_Slot A1 cp2 a0.Arena.Slots) rfl rfl hR3) (re := RE.rd (Kd.slice k_Handle) A5 cp6 a0.Kids) rfl rfl hR7) (re := RE.rd k_Handle A9 cp10 a1) rfl rfl hR11
 unfold m79 at hm
 refine W_seq ?_
 refine W_region ?_
 refine RL_cons (O_box (by exact wn0 rfl) (by rfl) (by rfl) (by rfl) H (fun w14 b13 (H : Sep ok w w14 [.blk b13 79 [.slice A1 a0.Arena.Slots.length cp2, .slice A5 a0.Kids.length cp6]] [RE.rd k_Slot A1 cp2 a0.Arena.Slots, RE.rd (Kd.slice k_Handle) A5 cp6 a0.Kids, RE.rd k_Handle A9 cp10 a1]) => ?_))
 refine RL_pure (by exact wn0 rfl) (by rfl) (by rfl) (x_assign (v := .int .i64 0) (by rfl)) ?_
 refine RL_nil ?_
 refine W_seq ?_
 refine W_seq ?_
 refine W_region ?_
 refine RL_pure (by exact wn0 rfl) (by rfl) (by rfl) (x_loadA (j := 0) (vs := [.slice A1 a0.Arena.Slots.length cp2, .slice A5 a0.Kids.length cp6]) ag79 (by rfl) (H.cells (i := 0) (by rfl)) (by rfl) (by rfl)) ?_
 obtain ⟨v16, hv15, hm⟩ := bind_some hm
 refine RL_cons (O_call (by exact wn0 rfl) (by rfl) (by rfl) (x_callL (by rfl) (args := [.agg #[.slice A1 a0.Arena.Slots.length cp2, .slice A5 a0.Kids.length cp6]]) (by rfl) (cf43 _ _)) (c43 okT K w14 a0 A1 cp2 A5 cp6 (H.rd (i := 0) (by rfl)).any (H.rd (i := 1) (by rfl)).any v16 hv15) ?_)
 rintro e w17 ⟨rfl, H2⟩
 have H : Sep ok w w17 [.blk b13 79 [.slice A1 a0.Arena.Slots.length cp2, .slice A5 a0.Kids.length cp6]] [RE.rd k_Slot A1 cp2 a0.Arena.Slots, RE.rd (Kd.slice k_Handle) A5 cp6 a0.Kids, RE.rd k_Handle A9 cp10 a1] := H.below H2.base
 clear H2
 refine ⟨_, rfl, ?_⟩
 show RL _ _ _ _ _ _ _
 refine RL_pure (by exact wn0 rfl) (by rfl) (by rfl) (x_assign (v := .int .i64 v16) (by rfl)) ?_
 refine RL_nil ?_
 refine W_seq ?_
 refine W_region ?_
 refine RL_pure (by exact wn0 rfl) (by rfl) (by rfl) (x_move (v := .int .i64 v16) (by rfl)) ?_
 refine RL_pure (by exact wn0 rfl) (by rfl) (by rfl) (x_neq (by rfl) (by rfl)) ?_
 refine RL_nil ?_
 refine W_cond (by rfl) (fun hb => ?_) (fun hb => ?_)
 ·have hm := cond_t hb hm
  refine W_seq ?_
  refine W_region ?_
  refine RL_pure (by exact wn0 rfl) (by rfl) (by rfl) (x_move (v := .int .i64 v16) (by rfl)) ?_
  refine RL_pure (by exact wn0 rfl) (by rfl) (by rfl) (x_assign (v := .int .i64 v16) (by rfl)) ?_
  refine RL_nil ?_
  refine W_ret ?_
  obtain rfl := Option.some.inj hm
  exact ⟨[.int .i64 v16], (.tmp (by rfl) rfl), rfl, H.none_⟩
 ·have hm := cond_f hb hm
  refine W_skip ?_
  refine W_seq ?_
  refine W_seq ?_
  refine W_region ?_
  refine RL_pure (by exact wn0 rfl) (by rfl) (by rfl) (x_move (v := .slice A9 a1.length cp10) (by rfl)) ?_
  refine RL_pure (by exact wn0 rfl) (by rfl) (by rfl) (x_len sl87 (by rfl)) ?_
  refine RL_pure (by exact wn0 rfl) (by rfl) (by rfl) (x_move (v := .int .i64 0) (by rfl)) ?_
  refine RL_nil ?_
  refine W_block ?_
  refine W_loop (fun k1 r' w' => ∃ (y15_1 : Int), m79_l1 K a0 a1 k1 y15_1 = some res ∧ Agr [(2, .pointer (some ⟨b13, 0, none⟩)), (13, .slice A9 a1.length cp10), (14, .int .i64 (a1.length : Int)), (15, .int .i64 y15_1)] r' ∧ Sep ok w w' [.blk b13 79 [.slice A1 a0.Arena.Slots.length cp2, .slice A5 a0.Kids.length cp6]] [RE.rd k_Slot A1 cp2 a0.Arena.Slots, RE.rd (Kd.slice k_Handle) A5 cp6 a0.Kids, RE.rd k_Handle A9 cp10 a1]) K ?_ ?_
  ·exact ⟨0, hm, ⟨rfl, rfl, rfl, rfl, trivial⟩, H⟩
  ·rintro k1 r' w' ⟨y15_1, hm, hA, H⟩
   obtain ⟨r18, rfl⟩ := regen _ hA; clear hA
   obtain ⟨w19, rfl⟩ : ∃ W : World, W = w' := ⟨_, rfl⟩
   cases k1 with
   | zero => exact (none_some hm).elim
   | succ k1 =>
    have hm : m79_l1b K a0 a1 (m79_l1 K a0 a1 k1) y15_1 = some res := hm
    unfold m79_l1b at hm
    obtain ⟨rec1, hrec1⟩ : ∃ f, m79_l1 K a0 a1 k1 = f := ⟨_, rfl⟩
    rw [hrec1] at hm
    refine W_seq ?_
    refine W_region ?_
    refine RL_pure (by exact wn0 rfl) (by rfl) (by rfl) (x_lss (by rfl) (by rfl)) ?_
    refine RL_nil ?_
    refine W_seq ?_
    refine W_cond (by rfl) (fun hb => ?_) (fun hb => ?_)
    ·have hm := cond_t hb hm
     refine W_skip ?_
     refine W_seq ?_
     refine W_block ?_
     refine W_seq ?_
     refine W_region ?_
     obtain ⟨el20, h21, h22, he23, hm⟩ := idx_some hm
     obtain ⟨g25, o26, hA24⟩ := (H.rd (i := 2) (by rfl)).addr he23
     refine RL_pure (by exact wn0 rfl) (by rfl) (by rfl) (x_indexAddr sl87 sz81 (by rfl) (by rfl) hA24 h21 h22) ?_
     refine RL_pure (by exact wn0 rfl) (by rfl) (by rfl) (x_loadA (j := 0) (vs := [.int .i64 el20.Slot, .int .i64 el20.Gen]) ag81 (by rfl) (Rd.flatAt (n := 2) (H.rd (i := 2) (by rfl)) hA24 he23) (by rfl) (by rfl)) ?_
     refine RL_cons (O_alloc (by exact wn0 rfl) (by rfl) ze81 (by rfl) H (fun w28 b27 (H : Sep ok w w28 [.blk b13 79 [.slice A1 a0.Arena.Slots.length cp2, .slice A5 a0.Kids.length cp6], .blk b27 81 [.int .i64 0, .int .i64 0]] [RE.rd k_Slot A1 cp2 a0.Arena.Slots, RE.rd (Kd.slice k_Handle) A5 cp6 a0.Kids, RE.rd k_Handle A9 cp10 a1]) => ?_))
     refine RL_cons (O_store (i := 1) (off := 0) (by exact wn0 rfl) (by rfl) (by rfl) H (by rfl) (vs := [.int .i64 el20.Slot, .int .i64 el20.Gen]) (by rfl) sz81 (by rfl) (by rfl) (by rfl) (fun w29 (H : Sep ok w w29 [.blk b13 79 [.slice A1 a0.Arena.Slots.length cp2, .slice A5 a0.Kids.length cp6], .blk b27 81 [.int .i64 el20.Slot, .int .i64 el20.Gen]] [RE.rd k_Slot A1 cp2 a0.Arena.Slots, RE.rd (Kd.slice k_Handle) A5 cp6 a0.Kids, RE.rd k_Handle A9 cp10 a1]) => ?_))
     refine RL_nil ?_
     refine W_seq ?_
     refine W_region ?_
     refine RL_pure (by exact wn0 rfl) (by rfl) (by rfl) (x_fieldAddr fo79_0 (by rfl)) ?_
     refine RL_pure (by exact wn0 rfl) (by rfl) (by rfl) (x_loadA (j := 0) (vs := [.slice A1 a0.Arena.Slots.length cp2]) ag76 (by rfl) (H.cells (i := 0) (by rfl)) (by rfl) (by rfl)) ?_
     refine RL_pure (by exact wn0 rfl) (by rfl) (by rfl) (x_loadA (j := 0) (vs := [.int .i64 el20.Slot, .int .i64 el20.Gen]) ag81 (by rfl) (H.cells (i := 1) (by rfl)) (by rfl) (by rfl)) ?_
     obtain ⟨v31, hv30, hm⟩ := bind_some hm
     refine RL_cons (O_call (by exact wn0 rfl) (by rfl) (by rfl) (x_callL (by rfl) (args := [.agg #[.slice A1 a0.Arena.Slots.length cp2], .agg #[.int .i64 el20.Slot, .int .i64 el20.Gen]]) (by rfl) (cf90 _ _)) (c90 okT K w29 a0.Arena A1 cp2 el20 (H.rd (i := 0) (by rfl)).any v31 hv30) ?_)
     rintro e w32 ⟨rfl, H2⟩
     have H : Sep ok w w32 [.blk b13 79 [.slice A1 a0.Arena.Slots.length cp2, .slice A5 a0.Kids.length cp6], .blk b27 81 [.int .i64 el20.Slot, .int .i64 el20.Gen]] [RE.rd k_Slot A1 cp2 a0.Arena.Slots, RE.rd (Kd.slice k_Handle) A5 cp6 a0.Kids, RE.rd k_Handle A9 cp10 a1] := H.below H2.base
     clear H2
     refine ⟨_, rfl, ?_⟩
     show RL _ _ _ _ _ _ _
     refine RL_pure (by exact wn0 rfl) (by rfl) (by rfl) (x_not (by rfl)) ?_
     refine RL_nil ?_
     refine W_cond (by rfl) (fun hb => ?_) (fun hb => ?_)
     ·have hm := cond_t hb hm
      refine W_seq ?_
      refine W_region ?_
      refine RL_pure (by exact wn0 rfl) (by rfl) (by rfl) (x_assign (v := .int .i64 50) (by rfl)) ?_
      refine RL_nil ?_
      refine W_ret ?_
      obtain rfl := Option.some.inj hm
      exact ⟨[.int .i64 50], (.tmp (by rfl) rfl), rfl, H.none_⟩
     ·have hm := cond_f hb hm
      refine W_skip ?_
      refine W_region ?_
      obtain ⟨x33, ex33, qx33, ux33, hm⟩ := ck_some hm
      refine RL_pure (by exact wn0 rfl) (by rfl) (by rfl) (x_add (by rfl) (by rfl) ux33) ?_
      refine RL_pure (by exact wn0 rfl) (by rfl) (by rfl) (x_move (v := .int .i64 x33) (by rfl)) ?_
      refine RL_nil ?_
      subst hrec1
      exact ⟨k1, Nat.lt_succ_self k1, x33, hm, ⟨rfl, rfl, rfl, rfl, trivial⟩, (H).takeL 1⟩
    ·have hm := cond_f hb hm
     refine W_exit ?_
     refine W_seq ?_
     refine W_region ?_
     refine RL_pure (by exact wn0 rfl) (by rfl) (by rfl) (x_assign (v := .int .i64 0) (by rfl)) ?_
     refine RL_nil ?_
     refine W_ret ?_
     obtain rfl := Option.some.inj hm
     exact ⟨[.int .i64 0], (.tmp (by rfl) rfl), rfl, H.none_⟩
end Go.Proofs.YtobkigllalbkiaaV.M

/- A plain Lean function that answers as the Go function does (none: not told), and the proof that a call answers so. Written by program. -/
set_option linter.unusedVariables false
namespace Go.Proofs.YtobkigllalbkiaaV.M
open Go.RowKit Go.Proofs.YtobkigllalbkiaaV
/-- diorama/nodes.reaches -/
def m80 (K : Nat) (g : S_Graph) (frm to : S_Handle) : Option Bool := (m93 K g [] frm to).map (·.1)
set_option maxRecDepth 100000 in
set_option maxHeartbeats 4000000 in
theorem c80 (ok : Okp) (K : Nat) (w : World) (a0 : S_Graph) (A1 : Option Addr) (cp2 : Nat) (A5 : Option Addr) (cp6 : Nat) (a1 a2 : S_Handle) (hR3 : Rd k_Slot w ok A1 cp2 a0.Arena.Slots) (hR7 : Rd (Kd.slice k_Handle) w ok A5 cp6 a0.Kids) (res : Bool) (hm : m80 K a0 a1 a2 = some res) :
  Calls Try.prog 80 #[.agg #[.slice A1 a0.Arena.Slots.length cp2, .slice A5 a0.Kids.length cp6], .agg #[.int .i64 a1.Slot, .int .i64 a1.Gen], .agg #[.int .i64 a2.Slot, .int .i64 a2.Gen]] w (fun e w' => e = .returned (tup [.bool res]) ∧ Sep ok w w' [] []) := by
 refine calls_W (args := [.agg #[.slice A1 a0.Arena.Slots.length cp2, .slice A5 a0.Kids.length cp6], .agg #[.int .i64 a1.Slot, .int .i64 a1.Gen], .agg #[.int .i64 a2.Slot, .int .i64 a2.Gen]]) Try.func80 rfl Try.ntmps80 Try.results80 rfl fun r hr => ?_
 obtain ⟨r1, rfl⟩ := regen (r := r) [(0, .agg #[.slice A1 a0.Arena.Slots.length cp2, .slice A5 a0.Kids.length cp6]), (1, .agg #[.int .i64 a1.Slot, .int .i64 a1.Gen]), (2, .agg #[.int .i64 a2.Slot, .int .i64 a2.Gen])] ⟨hr 0 _ rfl, hr 1 _ rfl, hr 2 _ rfl, trivial⟩
 unfold m80 at hm
 obtain ⟨q, hq, rfl⟩ := Option.map_eq_some_iff.1 hm
 have H : Sep ok w w [] [RE.rd (Kd.slice k_Handle) A5 cp6 a0.Kids] := Sep.arg (Sep.start ok w) (re := RE.rd (Kd.slice k_Handle) A5 cp6 a0.Kids) rfl rfl hR7
 refine W_seq ?_
 refine W_region ?_
 refine RL_cons (O_box (by exact wn0 rfl) (by rfl) (by rfl) (by rfl) H (fun w1 b3 (H : Sep ok w w1 [.blk b3 79 [.slice A1 a0.Arena.Slots.length cp2, .slice A5 a0.Kids.length cp6]] [RE.rd (Kd.slice k_Handle) A5 cp6 a0.Kids]) => ?_))
 refine RL_cons (O_box (by exact wn0 rfl) (by rfl) (by rfl) (by rfl) H (fun w2 b4 (H : Sep ok w w2 [.blk b3 79 [.slice A1 a0.Arena.Slots.length cp2, .slice A5 a0.Kids.length cp6], .blk b4 81 [.int .i64 a1.Slot, .int .i64 a1.Gen]] [RE.rd (Kd.slice k_Handle) A5 cp6 a0.Kids]) => ?_))
 refine RL_cons (O_box (by exact wn0 rfl) (by rfl) (by rfl) (by rfl) H (fun w3 b5 (H : Sep ok w w3 [.blk b3 79 [.slice A1 a0.Arena.Slots.length cp2, .slice A5 a0.Kids.length cp6], .blk b4 81 [.int .i64 a1.Slot, .int .i64 a1.Gen], .blk b5 81 [.int .i64 a2.Slot, .int .i64 a2.Gen]] [RE.rd (Kd.slice k_Handle) A5 cp6 a0.Kids]) => ?_))
 refine RL_pure (by exact wn0 rfl) (by rfl) (by rfl) (x_assign (v := .bool false) (by rfl)) ?_
 refine RL_nil ?_
 refine W_seq ?_
 refine W_region ?_
 refine RL_pure (by exact wn0 rfl) (by rfl) (by rfl) (x_loadA (j := 0) (vs := [.slice A1 a0.Arena.Slots.length cp2, .slice A5 a0.Kids.length cp6]) ag79 (by rfl) (H.cells (i := 0) (by rfl)) (by rfl) (by rfl)) ?_
 refine RL_cons (O_makeMap (by exact wn0 rfl) (by rfl) H (fun w4 b (H : Sep ok w w4 [.blk b3 79 [.slice A1 a0.Arena.Slots.length cp2, .slice A5 a0.Kids.length cp6], .blk b4 81 [.int .i64 a1.Slot, .int .i64 a1.Gen], .blk b5 81 [.int .i64 a2.Slot, .int .i64 a2.Gen], .mset b []] [RE.rd (Kd.slice k_Handle) A5 cp6 a0.Kids]) => ?_))
 refine RL_pure (by exact wn0 rfl) (by rfl) (by rfl) (x_loadA (j := 0) (vs := [.int .i64 a1.Slot, .int .i64 a1.Gen]) ag81 (by rfl) (H.cells (i := 1) (by rfl)) (by rfl) (by rfl)) ?_
 refine RL_pure (by exact wn0 rfl) (by rfl) (by rfl) (x_loadA (j := 0) (vs := [.int .i64 a2.Slot, .int .i64 a2.Gen]) ag81 (by rfl) (H.cells (i := 2) (by rfl)) (by rfl) (by rfl)) ?_
 have H2 := H.lend (i := 3) (by rfl)
 have H2 := H.lendRd (i := 3) H2 (by rfl) (H.rd (i := 0) (by rfl))
 refine RL_cons (O_call (by exact wn0 rfl) (by rfl) (by rfl) (x_callL (by rfl) (args := [.agg #[.slice A1 a0.Arena.Slots.length cp2, .slice A5 a0.Kids.length cp6], .map (some b), .agg #[.int .i64 a1.Slot, .int .i64 a1.Gen], .agg #[.int .i64 a2.Slot, .int .i64 a2.Gen]]) (by rfl) (cf93 _ _)) (c93 _ K w4 w4 b [] a0 A1 cp2 A5 cp6 a1 a2 H2 q hq) ?_)
 rintro e w7 ⟨rfl, H3⟩
 have H := H.back (i := 3) (by rfl) H3
 refine ⟨_, rfl, ?_⟩
 show RL _ _ _ _ _ _ _
 refine RL_pure (by exact wn0 rfl) (by rfl) (by rfl) (x_assign (v := .bool q.1) (by rfl)) ?_
 refine RL_nil ?_
 refine W_ret ?_
 exact ⟨[.bool q.1], (.tmp (by rfl) rfl), rfl, H.none_⟩
end Go.Proofs.YtobkigllalbkiaaV.M

/- A plain Lean function that answers as the Go function does (none: not told), and the proof that a call answers so. Written by program. -/
set_option linter.unusedVariables false
namespace Go.Proofs.YtobkigllalbkiaaV.M
open Go.RowKit Go.Proofs.YtobkigllalbkiaaV
theorem un3 : Try.prog.underlying 3 = some (.int .i64) := by kernel_rfl
abbrev obH (x : S_Handle) : Obj := .cells ([Value.int .i64 x.Slot, Value.int .i64 x.Gen] : List Value).toArray 81 (0, 0)
theorem ov118 {w : World} {vb m vc o lb cb g c : Nat} {cv cur : List Value} (hv : w.heap[vb]? = some (.cells cv.toArray 81 (0, 0))) (hg : w.heap[g]? = some (.cells cur.toArray 81 (0, 0))) (hne : vb ≠ g) (hc : cur ≠ []) :
  (callFunc 118 #[.slice (some ⟨vb, 0, none⟩) m vc, .slice (some ⟨g, o, none⟩) lb cb]).run Try.prog w = .ok (.value (.bool false)) w :=
 overlaps_own (c := 0) (t := 87) (tR := 4) Try.func118 (by kernel_rfl) (by kernel_rfl) (by kernel_rfl) (by kernel_rfl) sl87 sz81 hv hg hne hc
theorem ins_room {α : Type} {l : List α} {i dn : Nat} {x : α} (h : i < l.length) (hd : 0 < dn) : cpyV (l.take (i + 1) ++ l.drop i) i dn [x] = l.take i ++ x :: l.drop i := by
 unfold cpyV
 have hm : min [x].length dn = 1 := by simp; omega
 rw [hm, List.take_append_of_le_length (by simp; omega), List.take_take, Nat.min_eq_left (by omega), List.drop_left' (by simp; omega)]
 simp
theorem ins_grow {α : Type} {l : List α} {i : Nat} {x x0 : α} (h : i < l.length) : cpyV (cpyV (l.take i ++ List.replicate (l.length + 1 - i) x0) i (l.length + 1 - i) [x]) (i + 1) (l.length - i) (l.drop i) = l.take i ++ x :: l.drop i := by
 have hti : (l.take i).length = i := by simp; omega
 have h1 : cpyV (l.take i ++ List.replicate (l.length + 1 - i) x0) i (l.length + 1 - i) [x] = l.take i ++ [x] ++ List.replicate (l.length - i) x0 := by
  unfold cpyV
  have hm : min [x].length (l.length + 1 - i) = 1 := by simp; omega
  rw [hm, List.take_left' hti, List.drop_append, hti, List.drop_eq_nil_of_le (by omega), List.drop_replicate]
  simp; omega
 rw [h1]
 unfold cpyV
 have hm : min (l.drop i).length (l.length - i) = l.length - i := by simp
 have hl2 : (l.take i ++ [x]).length = i + 1 := by simp; omega
 have hd : (l.drop i).take (l.length - i) = l.drop i := List.take_of_length_le (by simp)
 have hd2 : (l.take i ++ [x] ++ List.replicate (l.length - i) x0).drop (i + 1 + (l.length - i)) = [] := List.drop_eq_nil_of_le (Nat.le_of_eq (by rw [List.length_append, hl2, List.length_replicate]))
 rw [hm, List.take_left' hl2, hd, hd2]
 simp
set_option maxRecDepth 100000 in
set_option maxHeartbeats 4000000 in
/-- slices.Insert, of a row that is handed over: one more. -/
theorem c81 (ok : Okp) (w0 w : World) (a0 : List S_Handle) (i : Nat) (x : S_Handle) (A : Option Addr) (c : Nat) (cs : List Value) (vb : Nat)
  (H : Sep ok w0 w [.row (.slice A a0.length c) 81 k_Handle.sz a0.length cs] [RE.chunks k_Handle cs a0, RE.heap vb (obH x)])
  (h1 : i ≤ a0.length) (hbb : (a0.length + 1) * 16 ≤ 140737488355328) (res : List S_Handle) (hres : a0.take i ++ x :: a0.drop i = res) :
  Calls Try.prog 81 #[.slice A a0.length c, .int .i64 (i : Int), .slice (some ⟨vb, 0, none⟩) 1 1] w (fun e w' => ∃ (A' : Option Addr) (c' : Nat) (cs' : List Value), e = .returned (tup [.slice A' res.length c']) ∧ Sep ok w0 w' [.row (.slice A' res.length c') 81 k_Handle.sz res.length cs'] [RE.chunks k_Handle cs' res]) := by
 refine calls_W (args := [.slice A a0.length c, .int .i64 (i : Int), .slice (some ⟨vb, 0, none⟩) 1 1]) Try.func81 rfl Try.ntmps81 Try.results81 rfl fun r hr => ?_
 obtain ⟨r1, rfl⟩ := regen (r := r) [(0, .slice A a0.length c), (1, .int .i64 (i : Int)), (2, .slice (some ⟨vb, 0, none⟩) 1 1)] ⟨hr 0 _ rfl, hr 1 _ rfl, hr 2 _ rfl, trivial⟩
 obtain ⟨hac, hA⟩ := H.rowForm (i := 0) (by rfl)
 have hrl : res.length = a0.length + 1 := by subst hres; simp; omega
 have hmx : c ≤ 9223372036854775807 := by
  rcases hA with ⟨_, _, rfl⟩ | ⟨g', rfl⟩
  ·omega
  ·obtain ⟨_, _, _, _, hcm, _⟩ := H.rowRaw (i := 0) (by rfl)
   simp only [maxLen] at hcm; omega
 -- the new one, as a slice
 have hvR : ∀ {wS : World} {L : List Ent} {Rs : List RE} {q : Nat}, Sep ok w0 wS L Rs → Rs[q]? = some (RE.heap vb (obH x)) → Rd k_Handle wS (okS ok w0 L) (some ⟨vb, 0, none⟩) 1 [x] := by
  intro wS L Rs q H hq
  have hh : (RE.heap vb (obH x)).rel wS (okS ok w0 L) := H.rds q _ hq
  refine ⟨by simp, by omega, fun _ => ⟨vb, 0, rfl, ⟨_, hh.1, hh.2⟩, fun k y hk => ?_⟩⟩
  have hk0 : k = 0 := by
   have := (List.getElem?_eq_some_iff.1 hk).1
   simpa using this
  subst hk0
  simp at hk; subst hk
  exact ⟨[.int .i64 x.Slot, .int .i64 x.Gen], rfl, CellsAt.of_heap (by simpa using hh.1) fun k v hk => by simpa using hk⟩
 refine W_seq ?_
 refine W_region ?_
 refine RL_pure (by exact wn0 rfl) (by rfl) (by rfl) (x_assign (v := .slice none 0 0) (by rfl)) ?_
 refine RL_nil ?_
 refine W_seq ?_
 refine W_region ?_
 refine RL_pure (by exact wn0 rfl) (by rfl) (by rfl) (x_move (v := .slice A a0.length c) (by rfl)) ?_
 refine RL_pure (by exact wn0 rfl) (by rfl) (by rfl) (x_move (v := .int .i64 (i : Int)) (by rfl)) ?_
 refine RL_pure (by exact wn0 rfl) (by rfl) (by rfl) (x_slice_lo (sz := k_Handle.sz) (A := A) (n := a0.length) (c := c) (k := .i64) (j := (i : Int)) sl87 sz81 (by rfl) (by rfl) (by omega) (by omega)) ?_
 refine RL_nil ?_
 refine W_seq ?_
 refine W_region ?_
 refine RL_pure (by exact wn0 rfl) (by rfl) (by rfl) (x_move (v := .slice (some ⟨vb, 0, none⟩) 1 1) (by rfl)) ?_
 refine RL_pure (by exact wn0 rfl) (by rfl) (by rfl) (x_len sl87 (by rfl)) ?_
 refine RL_pure (by exact wn0 rfl) (by rfl) (by rfl) (x_assign (v := .int .i64 1) (by rfl)) ?_
 refine RL_nil ?_
 refine W_seq ?_
 refine W_seq ?_
 refine W_region ?_
 refine RL_pure (by exact wn0 rfl) (by rfl) (by rfl) (x_move (v := .int .i64 1) (by rfl)) ?_
 refine RL_pure (by exact wn0 rfl) (by rfl) (by rfl) (x_eql (by rfl) (by rfl)) ?_
 refine RL_nil ?_
 refine W_cond (by rfl) (fun hb => ?_) (fun hb => ?_)
 ·exact absurd hb (by decide)
 refine W_skip ?_
 refine W_seq ?_
 refine W_region ?_
 refine RL_pure (by exact wn0 rfl) (by rfl) (by rfl) (x_move (v := .slice A a0.length c) (by rfl)) ?_
 refine RL_pure (by exact wn0 rfl) (by rfl) (by rfl) (x_len sl87 (by rfl)) ?_
 refine RL_pure (by exact wn0 rfl) (by rfl) (by rfl) (x_assign (v := .int .i64 (a0.length : Int)) (by rfl)) ?_
 refine RL_nil ?_
 refine W_seq ?_
 refine W_seq ?_
 refine W_region ?_
 refine RL_pure (by exact wn0 rfl) (by rfl) (by rfl) (x_move (v := .int .i64 (i : Int)) (by rfl)) ?_
 refine RL_pure (by exact wn0 rfl) (by rfl) (by rfl) (x_move (v := .int .i64 (a0.length : Int)) (by rfl)) ?_
 refine RL_pure (by exact wn0 rfl) (by rfl) (by rfl) (x_eql (by rfl) (by rfl)) ?_
 refine RL_nil ?_
 refine W_cond (by rfl) (fun hb => ?_) (fun hb => ?_)
 ·-- at the end
  have hin : i = a0.length := by
   have : (i : Int) = (a0.length : Int) := by simpa using hb
   omega
  have hres2 : a0 ++ [x] = res := by rw [← hres, hin, List.take_length, List.drop_length]
  refine W_seq ?_
  refine W_region ?_
  refine RL_pure (by exact wn0 rfl) (by rfl) (by rfl) (x_move (v := .slice A a0.length c) (by rfl)) ?_
  refine RL_pure (by exact wn0 rfl) (by rfl) (by rfl) (x_move (v := .slice (some ⟨vb, 0, none⟩) 1 1) (by rfl)) ?_
  refine RL_cons (O_appendAll (D := k_Handle) (xs := a0) (i := 0) (j := 0) (zs := [x]) (by exact wn0 rfl) (by rfl) (by rfl) (by rfl) H (by rfl) (by rfl) (hvR (q := 1) H (by rfl)) hres2 sl87 sz81 by81 ze81 (by rfl) (by rfl) (by simpa using hbb) (by rfl) (fun w6 A7 c8 cs9 (H : Sep ok w0 w6 [.row (.slice A7 res.length c8) 81 k_Handle.sz res.length cs9] [RE.chunks k_Handle cs9 res, RE.heap vb (obH x)]) => ?_))
  refine RL_pure (by exact wn0 rfl) (by rfl) (by rfl) (x_assign (v := .slice A7 res.length c8) (by rfl)) ?_
  refine RL_nil ?_
  refine W_ret ?_
  exact ⟨[.slice A7 res.length c8], (.tmp (by rfl) rfl), A7, c8, cs9, rfl, H.pick [0]⟩
 have hin : i < a0.length := by
  have : ¬ (i : Int) = (a0.length : Int) := by simpa using hb
  omega
 obtain ⟨g, rfl⟩ : ∃ g, A = some ⟨g, 0, none⟩ := by
  rcases hA with ⟨_, rfl, _⟩ | h
  ·simp at hin
  ·exact h
 have hn1 : IntKind.i64.wrap ((a0.length : Int) + 1) = ((a0.length + 1 : Nat) : Int) := by rw [wrap_i64_in (by omega)]; push_cast; rfl
 have hi1 : IntKind.i64.wrap ((i : Int) + 1) = ((i + 1 : Nat) : Int) := by rw [wrap_i64_in (by omega)]; push_cast; rfl
 refine W_skip ?_
 refine W_seq ?_
 refine W_seq ?_
 refine W_region ?_
 refine RL_pure (by exact wn0 rfl) (by rfl) (by rfl) (x_move (v := .int .i64 (a0.length : Int)) (by rfl)) ?_
 refine RL_pure (by exact wn0 rfl) (by rfl) (by rfl) (x_move (v := .int .i64 1) (by rfl)) ?_
 refine RL_pure (by exact wn0 rfl) (by rfl) (by rfl) (x_add (by rfl) (by rfl) hn1) ?_
 refine RL_pure (by exact wn0 rfl) (by rfl) (by rfl) (x_move (v := .slice (some ⟨g, 0, none⟩) a0.length c) (by rfl)) ?_
 refine RL_pure (by exact wn0 rfl) (by rfl) (by rfl) (x_cap sl87 (by rfl)) ?_
 refine RL_pure (by exact wn0 rfl) (by rfl) (by rfl) (x_gtr (by rfl) (by rfl)) ?_
 refine RL_nil ?_
 refine W_cond (by rfl) (fun hb2 => ?_) (fun hb2 => ?_)
 ·-- no room
  have hroom : c < a0.length + 1 := by have := of_decide_eq_true hb2; omega
  have hk1 : IntKind.i64.wrap (((a0.length + 1 : Nat) : Int) - (i : Int)) = ((a0.length + 1 - i : Nat) : Int) := by rw [wrap_i64_in (by omega)]; omega
  obtain ⟨y1, hy1⟩ : ∃ y1, a0.take i ++ List.replicate (a0.length + 1 - i) (⟨0, 0⟩ : S_Handle) = y1 := ⟨_, rfl⟩
  have hy1l : y1.length = a0.length + 1 := by subst hy1; simp; omega
  obtain ⟨y2, hy2⟩ : ∃ y2, cpyV y1 i (a0.length + 1 - i) [x] = y2 := ⟨_, rfl⟩
  have hy2l : y2.length = a0.length + 1 := by rw [← hy2, length_cpyV (by omega), hy1l]
  have hy3 : cpyV y2 (i + 1) (a0.length - i) (a0.drop i) = res := by rw [← hy2, ← hy1, ins_grow hin, hres]
  refine W_seq ?_
  refine W_region ?_
  refine RL_pure (by exact wn0 rfl) (by rfl) (by rfl) (x_move (v := .slice (some ⟨g, 0, none⟩) a0.length c) (by rfl)) ?_
  refine RL_pure (by exact wn0 rfl) (by rfl) (by rfl) (x_move (v := .int .i64 (i : Int)) (by rfl)) ?_
  refine RL_pure (by exact wn0 rfl) (by rfl) (by rfl) (x_slice_hi (sz := k_Handle.sz) (A := some ⟨g, 0, none⟩) (n := a0.length) (c := c) (k := .i64) (j := (i : Int)) sl87 sz81 (by rfl) (by rfl) (by omega) (by omega)) ?_
  refine RL_pure (by exact wn0 rfl) (by rfl) (by rfl) (x_move (v := .int .i64 (a0.length : Int)) (by rfl)) ?_
  refine RL_pure (by exact wn0 rfl) (by rfl) (by rfl) (x_move (v := .int .i64 1) (by rfl)) ?_
  refine RL_pure (by exact wn0 rfl) (by rfl) (by rfl) (x_add (by rfl) (by rfl) hn1) ?_
  refine RL_pure (by exact wn0 rfl) (by rfl) (by rfl) (x_move (v := .int .i64 (i : Int)) (by rfl)) ?_
  refine RL_pure (by exact wn0 rfl) (by rfl) (by rfl) (x_sub (by rfl) (by rfl) hk1) ?_
  refine RL_cons (O_appendMake (D := k_Handle) (i := 0) (j := 0) (xs := a0) (A := some ⟨g, 0, none⟩) (lo := i) (k := a0.length + 1 - i) (x0 := (⟨0, 0⟩ : S_Handle)) (kn := .i64) (by exact wn0 rfl) (by rfl) (by rfl) rfl (by rfl) un3 H (by rfl) (by rfl) (by omega) (by omega) (by omega) (by omega) hy1 sl87 sz81 by81 ze81 (by rfl) (by rfl) (fun _ _ => rfl) (by rw [show i + (a0.length + 1 - i) = a0.length + 1 by omega]; exact hbb) (by rfl) (fun w2 g2 c2 cs2 (H : Sep ok w0 w2 [.row (.slice (some ⟨g, 0, none⟩) a0.length c) 81 k_Handle.sz a0.length cs, .row (.slice (some ⟨g2, 0, none⟩) y1.length c2) 81 k_Handle.sz y1.length cs2] [RE.chunks k_Handle cs a0, RE.heap vb (obH x), RE.chunks k_Handle cs2 y1]) => ?_))
  refine RL_pure (by exact wn0 rfl) (by rfl) (by rfl) (x_assign (v := .slice (some ⟨g2, 0, none⟩) y1.length c2) (by rfl)) ?_
  refine RL_nil ?_
  have hc2 := (H.rowForm (i := 1) (by rfl)).1
  refine W_seq ?_
  refine W_region ?_
  refine RL_pure (by exact wn0 rfl) (by rfl) (by rfl) (x_move (v := .slice (some ⟨g2, 0, none⟩) (a0.length + 1) c2) (by rw [← hy1l]; rfl)) ?_
  refine RL_pure (by exact wn0 rfl) (by rfl) (by rfl) (x_move (v := .int .i64 (i : Int)) (by rfl)) ?_
  refine RL_pure (by exact wn0 rfl) (by rfl) (by rfl) (x_slice_lo (sz := k_Handle.sz) (A := some ⟨g2, 0, none⟩) (n := a0.length + 1) (c := c2) (k := .i64) (j := (i : Int)) sl87 sz81 (by rfl) (by rfl) (by omega) (by omega)) ?_
  refine RL_pure (by exact wn0 rfl) (by rfl) (by rfl) (x_move (v := .slice (some ⟨vb, 0, none⟩) 1 1) (by rfl)) ?_
  refine RL_cons (O_copy (D := k_Handle) (i := 1) (j := 2) (xs := y1) (A := some ⟨g2, 0, none⟩) (lo := i) (dn := a0.length + 1 - i) (zs := [x]) (by exact wn0 rfl) (by rfl) (by rfl) (by rfl) (by rfl) (by rfl) H (by rfl) (by rfl) (by omega) (hvR (q := 1) H (by rfl)).src sl87 sz81 hy2 (fun w3 cs3 (H : Sep ok w0 w3 [.row (.slice (some ⟨g, 0, none⟩) a0.length c) 81 k_Handle.sz a0.length cs, .row (.slice (some ⟨g2, 0, none⟩) y2.length c2) 81 k_Handle.sz y2.length cs3] [RE.chunks k_Handle cs a0, RE.heap vb (obH x), RE.chunks k_Handle cs3 y2]) => ?_))
  refine RL_nil ?_
  refine W_seq ?_
  refine W_draw [.free 0, .free 1, .free 2, .free 3, .free 4, .free 5, .free 6, .free 7, .tail 8] (fun wS => Sep ok w0 wS [.row (.slice (some ⟨g, 0, none⟩) a0.length c) 81 k_Handle.sz a0.length cs, .row (.slice (some ⟨g2, 0, none⟩) y2.length c2) 81 k_Handle.sz y2.length cs3] [RE.chunks k_Handle cs a0, RE.heap vb (obH x), RE.chunks k_Handle cs3 y2]) [8] [0, 1, 2, 3, 4, 5, 6, 7] mixed0 (by kernel_rfl) (by kernel_rfl) (by kernel_rfl) (by rfl) (by exact H.drew) ?_
  obtain ⟨w4, hW⟩ : ∃ W : World, W = { w3 with drawn := w3.drawn + 1 } := ⟨_, rfl⟩
  rw [← hW]
  have H : Sep ok w0 w4 [.row (.slice (some ⟨g, 0, none⟩) a0.length c) 81 k_Handle.sz a0.length cs, .row (.slice (some ⟨g2, 0, none⟩) y2.length c2) 81 k_Handle.sz y2.length cs3] [RE.chunks k_Handle cs a0, RE.heap vb (obH x), RE.chunks k_Handle cs3 y2] := by rw [hW]; exact H.drew
  clear hW
  refine PR_free (by rfl) (by rfl) (by rfl) (by exact wn0 rfl) (fun wS => (x_move (v := .slice (some ⟨g2, 0, none⟩) (a0.length + 1) c2) (by rw [← hy1l]; rfl))) ?_
  refine PR_free (by rfl) (by rfl) (by rfl) (by exact wn0 rfl) (fun wS => (x_move (v := .int .i64 (i : Int)) (by rfl))) ?_
  refine PR_free (by rfl) (by rfl) (by rfl) (by exact wn0 rfl) (fun wS => (x_move (v := .int .i64 1) (by rfl))) ?_
  refine PR_free (by rfl) (by rfl) (by rfl) (by exact wn0 rfl) (fun wS => (x_add (by rfl) (by rfl) hi1)) ?_
  refine PR_free (by rfl) (by rfl) (by rfl) (by exact wn0 rfl) (fun wS => (x_slice_lo (sz := k_Handle.sz) (A := some ⟨g2, 0, none⟩) (n := a0.length + 1) (c := c2) (k := .i64) (j := ((i + 1 : Nat) : Int)) sl87 sz81 (by rfl) (by rfl) (by omega) (by omega))) ?_
  refine PR_free (by rfl) (by rfl) (by rfl) (by exact wn0 rfl) (fun wS => (x_move (v := .slice (some ⟨g, 0, none⟩) a0.length c) (by rfl))) ?_
  refine PR_free (by rfl) (by rfl) (by rfl) (by exact wn0 rfl) (fun wS => (x_move (v := .int .i64 (i : Int)) (by rfl))) ?_
  refine PR_free (by rfl) (by rfl) (by rfl) (by exact wn0 rfl) (fun wS => (x_slice_loL (sz := k_Handle.sz) (A := some ⟨g, 0, none⟩) (xs := a0) (c := c) (k := .i64) (j := (i : Int)) sl87 sz81 (by rfl) (by rfl) (by omega) (by omega))) ?_
  have e4 : a0.length + 1 - ((i + 1 : Nat) : Int).toNat = a0.length - i := by simp only [Int.toNat_natCast]; omega
  rw [e4]
  refine PR_tail (by rfl) (O_copy (D := k_Handle) (i := 1) (j := 2) (xs := y2) (A := some ⟨g2, 0, none⟩) (lo := i + 1) (dn := a0.length - i) (zs := a0.drop i) (by exact wn0 rfl) (by rfl) (by rfl) (by rfl) (by rfl) (by rfl) H (by rfl) (by rfl) (by omega) (H.rowSrc (i := 0) (j := 0) (lo := i) (by rfl) (by rfl)) sl87 sz81 hy3 (fun w5 cs5 (H : Sep ok w0 w5 [.row (.slice (some ⟨g, 0, none⟩) a0.length c) 81 k_Handle.sz a0.length cs, .row (.slice (some ⟨g2, 0, none⟩) res.length c2) 81 k_Handle.sz res.length cs5] [RE.chunks k_Handle cs a0, RE.heap vb (obH x), RE.chunks k_Handle cs5 res]) => ?_))
  refine PR_nil ?_
  refine W_seq ?_
  refine W_region ?_
  refine RL_pure (by exact wn0 rfl) (by rfl) (by rfl) (x_move (v := .slice (some ⟨g2, 0, none⟩) res.length c2) (by rw [hrl, ← hy1l]; rfl)) ?_
  refine RL_pure (by exact wn0 rfl) (by rfl) (by rfl) (x_assign (v := .slice (some ⟨g2, 0, none⟩) res.length c2) (by rfl)) ?_
  refine RL_nil ?_
  refine W_ret ?_
  exact ⟨[.slice (some ⟨g2, 0, none⟩) res.length c2], (.tmp (by rfl) rfl), some ⟨g2, 0, none⟩, c2, cs5, rfl, (H.pickL [1] (by decide)).pick [2]⟩
 ·-- there is room
  have hroom : a0.length + 1 ≤ c := by have := of_decide_eq_false hb2; omega
  have hA0 : slA (some ⟨g, 0, none⟩) c 0 k_Handle.sz = some ⟨g, 0, none⟩ := (H.rowA0 (i := 0) (by rfl)).symm
  have hAi : slA (some ⟨g, 0, none⟩) c (i + 1) k_Handle.sz = some ⟨g, (i + 1) * k_Handle.sz, none⟩ := by simp [slA, show c ≠ i + 1 by omega, add_plain]
  obtain ⟨y1, hy1⟩ : ∃ y1, a0.take (i + 1) ++ a0.drop i = y1 := ⟨_, rfl⟩
  have hy1l : y1.length = a0.length + 1 := by subst hy1; simp; omega
  have hy2 : cpyV y1 i (a0.length + 1 - i) [x] = res := by rw [← hy1, ins_room hin (by omega), hres]
  obtain ⟨cur, hg, hcl, _, _, _⟩ := H.rowRaw (i := 0) (by rfl)
  have hh : (RE.heap vb (obH x)).rel w (okS ok w0 _) := H.rds 1 _ (by rfl)
  have hne : vb ≠ g := fun he => hh.2.1 (by simp [blks, Ent.blks, Value.ownBlock, he])
  have hcur : cur ≠ [] := by
   intro he
   rw [he] at hcl
   have hk2 : k_Handle.sz = 2 := rfl
   rw [hk2] at hcl
   simp at hcl; omega
  refine W_skip ?_
  refine W_seq ?_
  refine W_region ?_
  refine RL_pure (by exact wn0 rfl) (by rfl) (by rfl) (x_move (v := .slice (some ⟨g, 0, none⟩) a0.length c) (by rfl)) ?_
  refine RL_pure (by exact wn0 rfl) (by rfl) (by rfl) (x_move (v := .int .i64 (a0.length : Int)) (by rfl)) ?_
  refine RL_pure (by exact wn0 rfl) (by rfl) (by rfl) (x_move (v := .int .i64 1) (by rfl)) ?_
  refine RL_pure (by exact wn0 rfl) (by rfl) (by rfl) (x_add (by rfl) (by rfl) hn1) ?_
  refine RL_pure (by exact wn0 rfl) (by rfl) (by rfl) (x_slice_hi (sz := k_Handle.sz) (A := some ⟨g, 0, none⟩) (n := a0.length) (c := c) (k := .i64) (j := ((a0.length + 1 : Nat) : Int)) sl87 sz81 (by rfl) (by rfl) (by omega) (by omega)) ?_
  rw [hA0]
  refine RL_pure (by exact wn0 rfl) (by rfl) (by rfl) (x_assign (v := .slice (some ⟨g, 0, none⟩) (a0.length + 1) c) (by rfl)) ?_
  refine RL_nil ?_
  refine W_seq ?_
  refine W_seq ?_
  refine W_region ?_
  refine RL_pure (by exact wn0 rfl) (by rfl) (by rfl) (x_move (v := .slice (some ⟨vb, 0, none⟩) 1 1) (by rfl)) ?_
  refine RL_pure (by exact wn0 rfl) (by rfl) (by rfl) (x_move (v := .slice (some ⟨g, 0, none⟩) (a0.length + 1) c) (by rfl)) ?_
  refine RL_pure (by exact wn0 rfl) (by rfl) (by rfl) (x_move (v := .int .i64 (i : Int)) (by rfl)) ?_
  refine RL_pure (by exact wn0 rfl) (by rfl) (by rfl) (x_move (v := .int .i64 1) (by rfl)) ?_
  refine RL_pure (by exact wn0 rfl) (by rfl) (by rfl) (x_add (by rfl) (by rfl) hi1) ?_
  refine RL_pure (by exact wn0 rfl) (by rfl) (by rfl) (x_slice_lo (sz := k_Handle.sz) (A := some ⟨g, 0, none⟩) (n := a0.length + 1) (c := c) (k := .i64) (j := ((i + 1 : Nat) : Int)) sl87 sz81 (by rfl) (by rfl) (by omega) (by omega)) ?_
  rw [Int.toNat_natCast (i + 1), hAi]
  refine RL_pure (by exact wn0 rfl) (by rfl) (by rfl) (x_callV (by rfl) (args := [.slice (some ⟨vb, 0, none⟩) 1 1, .slice (some ⟨g, (i + 1) * k_Handle.sz, none⟩) (a0.length + 1 - (i + 1)) (c - (i + 1))]) (by rfl) (ov118 (c := 0) hh.1 hg hne hcur)) ?_
  refine RL_pure (by exact wn0 rfl) (by rfl) (by rfl) (x_not (by rfl)) ?_
  refine RL_nil ?_
  refine W_cond (by rfl) (fun hb3 => ?_) (fun hb3 => ?_)
  rotate_left
  ·exact absurd hb3 (by decide)
  refine W_seq ?_
  refine W_draw [.free 0, .free 1, .free 2, .free 3, .free 4, .free 5, .free 6, .free 7, .tail 8] (fun wS => Sep ok w0 wS [.row (.slice (some ⟨g, 0, none⟩) a0.length c) 81 k_Handle.sz a0.length cs] [RE.chunks k_Handle cs a0, RE.heap vb (obH x)]) [8] [0, 1, 2, 3, 4, 5, 6, 7] mixed0 (by kernel_rfl) (by kernel_rfl) (by kernel_rfl) (by rfl) (by exact H.drew) ?_
  obtain ⟨w4, hW⟩ : ∃ W : World, W = { w with drawn := w.drawn + 1 } := ⟨_, rfl⟩
  rw [← hW]
  have H : Sep ok w0 w4 [.row (.slice (some ⟨g, 0, none⟩) a0.length c) 81 k_Handle.sz a0.length cs] [RE.chunks k_Handle cs a0, RE.heap vb (obH x)] := by rw [hW]; exact H.drew
  clear hW
  refine PR_free (by rfl) (by rfl) (by rfl) (by exact wn0 rfl) (fun wS => (x_move (v := .slice (some ⟨g, 0, none⟩) (a0.length + 1) c) (by rfl))) ?_
  refine PR_free (by rfl) (by rfl) (by rfl) (by exact wn0 rfl) (fun wS => (x_move (v := .int .i64 (i : Int)) (by rfl))) ?_
  refine PR_free (by rfl) (by rfl) (by rfl) (by exact wn0 rfl) (fun wS => (x_move (v := .int .i64 1) (by rfl))) ?_
  refine PR_free (by rfl) (by rfl) (by rfl) (by exact wn0 rfl) (fun wS => (x_add (by rfl) (by rfl) hi1)) ?_
  refine PR_free (by rfl) (by rfl) (by rfl) (by exact wn0 rfl) (fun wS => (x_slice_lo (sz := k_Handle.sz) (A := some ⟨g, 0, none⟩) (n := a0.length + 1) (c := c) (k := .i64) (j := ((i + 1 : Nat) : Int)) sl87 sz81 (by rfl) (by rfl) (by omega) (by omega))) ?_
  refine PR_free (by rfl) (by rfl) (by rfl) (by exact wn0 rfl) (fun wS => (x_move (v := .slice (some ⟨g, 0, none⟩) (a0.length + 1) c) (by rfl))) ?_
  refine PR_free (by rfl) (by rfl) (by rfl) (by exact wn0 rfl) (fun wS => (x_move (v := .int .i64 (i : Int)) (by rfl))) ?_
  refine PR_free (by rfl) (by rfl) (by rfl) (by exact wn0 rfl) (fun wS => (x_slice_lo (sz := k_Handle.sz) (A := some ⟨g, 0, none⟩) (n := a0.length + 1) (c := c) (k := .i64) (j := (i : Int)) sl87 sz81 (by rfl) (by rfl) (by omega) (by omega))) ?_
  refine PR_tail (by rfl) (O_copyShift (D := k_Handle) (i := 0) (j := 0) (xs := a0) (A := some ⟨g, 0, none⟩) (lo := i) (by exact wn0 rfl) (by rfl) (by rfl) rfl (by simp only [Int.toNat_natCast]; omega) (by rfl) rfl rfl H (by rfl) (by rfl) hin hroom sl87 sz81 hy1 (fun v5 w5 cs5 (H : Sep ok w0 w5 [.row (.slice (some ⟨g, 0, none⟩) y1.length c) 81 k_Handle.sz y1.length cs5] [RE.chunks k_Handle cs5 y1, RE.heap vb (obH x)]) => ?_))
  refine PR_nil ?_
  refine W_seq ?_
  refine W_region ?_
  refine RL_pure (by exact wn0 rfl) (by rfl) (by rfl) (x_move (v := .slice (some ⟨g, 0, none⟩) (a0.length + 1) c) (by rfl)) ?_
  refine RL_pure (by exact wn0 rfl) (by rfl) (by rfl) (x_move (v := .int .i64 (i : Int)) (by rfl)) ?_
  refine RL_pure (by exact wn0 rfl) (by rfl) (by rfl) (x_slice_lo (sz := k_Handle.sz) (A := some ⟨g, 0, none⟩) (n := a0.length + 1) (c := c) (k := .i64) (j := (i : Int)) sl87 sz81 (by rfl) (by rfl) (by omega) (by omega)) ?_
  refine RL_pure (by exact wn0 rfl) (by rfl) (by rfl) (x_move (v := .slice (some ⟨vb, 0, none⟩) 1 1) (by rfl)) ?_
  refine RL_cons (O_copy (D := k_Handle) (i := 0) (j := 0) (xs := y1) (A := some ⟨g, 0, none⟩) (lo := i) (dn := a0.length + 1 - i) (zs := [x]) (by exact wn0 rfl) (by rfl) (by rfl) (by rfl) (by rfl) (by rfl) H (by rfl) (by rfl) (by omega) (hvR (q := 1) H (by rfl)).src sl87 sz81 hy2 (fun w6 cs6 (H : Sep ok w0 w6 [.row (.slice (some ⟨g, 0, none⟩) res.length c) 81 k_Handle.sz res.length cs6] [RE.chunks k_Handle cs6 res, RE.heap vb (obH x)]) => ?_))
  refine RL_nil ?_
  refine W_seq ?_
  refine W_region ?_
  refine RL_pure (by exact wn0 rfl) (by rfl) (by rfl) (x_move (v := .slice (some ⟨g, 0, none⟩) res.length c) (by rw [hrl]; rfl)) ?_
  refine RL_pure (by exact wn0 rfl) (by rfl) (by rfl) (x_assign (v := .slice (some ⟨g, 0, none⟩) res.length c) (by rfl)) ?_
  refine RL_nil ?_
  refine W_ret ?_
  exact ⟨[.slice (some ⟨g, 0, none⟩) res.length c], (.tmp (by rfl) rfl), some ⟨g, 0, none⟩, c, cs6, rfl, H.pick [0]⟩
end Go.Proofs.YtobkigllalbkiaaV.M

/- A plain Lean function that answers as the Go function does (none: not told), and the proof that a call answers so. Written by program. -/
set_option linter.unusedVariables false
namespace Go.Proofs.YtobkigllalbkiaaV.M
open Go.RowKit Go.Proofs.YtobkigllalbkiaaV
/-- Link, behind its call of Twin -/
def tl38 (K : Nat) (a0 : S_Graph) (a1 : S_Handle) (a2 : S_Handle) (a3 : Int) : Option (S_Graph × Int) :=
 (m53 K a0).bind fun v => idx v.Kids a1.Slot fun l => if 0 ≤ a3 ∧ a3 ≤ (l.length : Int) ∧ (l.length + 1) * 16 ≤ 140737488355328 then some ((⟨v.Arena, v.Kids.set a1.Slot.toNat (l.take a3.toNat ++ a2 :: l.drop a3.toNat)⟩ : S_Graph), 0) else none
def m38_j1 (K : Nat) (a0 : S_Graph) (a1 : S_Handle) (a2 : S_Handle) (a3 : Int) (el27 : (List S_Handle)) (y27_1 : Bool) : Option (S_Graph × Int) :=
 (bif y27_1 then some ((⟨(⟨[]⟩ : S_Arena), []⟩ : S_Graph), 2) else (bif ((el27.length : Int) == 16) then some ((⟨(⟨[]⟩ : S_Arena), []⟩ : S_Graph), 9) else ((m80 K a0 a2 a1).bind fun v53 => (bif v53 then some ((⟨(⟨[]⟩ : S_Arena), []⟩ : S_Graph), 60) else (tl38 K a0 a1 a2 a3)))))
/-- diorama/nodes.Link -/
def m38 (K : Nat) (a0 : S_Graph) (a1 : S_Handle) (a2 : S_Handle) (a3 : Int) : Option (S_Graph × Int) :=
 ((m79 K a0 ([a1, a2])).bind fun v22 => (bif (v22 != 0) then some ((⟨(⟨[]⟩ : S_Arena), []⟩ : S_Graph), v22) else (idx a0.Kids a1.Slot fun el27 => (bif (decide (a3 < 0)) then (m38_j1 K a0 a1 a2 a3 el27 (decide (a3 < 0))) else (m38_j1 K a0 a1 a2 a3 el27 (decide ((el27.length : Int) < a3)))))))
set_option maxRecDepth 100000 in
set_option maxHeartbeats 4000000 in
theorem c38n (ok : Okp) (hno : ∀ k, ¬ ok.wr k) (K : Nat) (w : World) (a0 : S_Graph) (A1 : Option Addr) (cp2 : Nat) (A5 : Option Addr) (cp6 : Nat) (a1 : S_Handle) (a2 : S_Handle) (a3 : Int) (hR3 : Rd k_Slot w ok A1 cp2 a0.Arena.Slots) (hR7 : Rd (Kd.slice k_Handle) w ok A5 cp6 a0.Kids) (res : S_Graph × Int) (hm : m38 K a0 a1 a2 a3 = some res) :
  Calls Try.prog 38 #[.agg #[.slice A1 a0.Arena.Slots.length cp2, .slice A5 a0.Kids.length cp6], .agg #[.int .i64 a1.Slot, .int .i64 a1.Gen], .agg #[.int .i64 a2.Slot, .int .i64 a2.Gen], .int .i64 a3] w (fun e w' => ∃ (A0_ : Option Addr) (c0_ : Nat), ∃ (A1_ : Option Addr) (c1_ : Nat), e = .returned (tup [.agg #[.slice A0_ res.1.Arena.Slots.length c0_, .slice A1_ res.1.Kids.length c1_], .int .i64 res.2]) ∧ Sep ok w w' [] [RE.fr w.heap.size k_Slot A0_ c0_ res.1.Arena.Slots, RE.fr w.heap.size (Kd.slice k_Handle) A1_ c1_ res.1.Kids]) := by
 refine calls_W (args := [.agg #[.slice A1 a0.Arena.Slots.length cp2, .slice A5 a0.Kids.length cp6], .agg #[.int .i64 a1.Slot, .int .i64 a1.Gen], .agg #[.int .i64 a2.Slot, .int .i64 a2.Gen], .int .i64 a3]) Try.func38 rfl Try.ntmps38 Try.results38 rfl fun r hr => ?_
 obtain ⟨r1, rfl⟩ := regen (r := r) [(0, .agg #[.slice A1 a0.Arena.Slots.length cp2, .slice A5 a0.Kids.length cp6]), (1, .agg #[.int .i64 a1.Slot, .int .i64 a1.Gen]), (2, .agg #[.int .i64 a2.Slot, .int .i64 a2.Gen]), (3, .int .i64 a3)] ⟨hr 0 _ rfl, hr 1 _ rfl, hr 2 _ rfl, hr 3 _ rfl, trivial⟩
 have H : Sep ok w w [] [RE.rd k_Slot A1 cp2 a0.Arena.Slots, RE.rd (Kd.slice k_Handle) A5 cp6 a0.Kids] := Sep.arg (Sep.arg (Sep.start ok w) (re := RE.rd k_Slot A1 cp2 a0.Arena.Slots) rfl rfl hR3) (re := RE.rd (Kd.slice k_Handle) A5 cp6 a0.Kids) rfl rfl hR7
 unfold m38 at hm
 refine W_seq ?_
 refine W_region ?_
 refine RL_cons (O_box (by exact wn0 rfl) (by rfl) (by rfl) (by rfl) H (fun w10 b9 (H : Sep ok w w10 [.blk b9 79 [.slice A1 a0.Arena.Slots.length cp2, .slice A5 a0.Kids.length cp6]] [RE.rd k_Slot A1 cp2 a0.Arena.Slots, RE.rd (Kd.slice k_Handle) A5 cp6 a0.Kids]) => ?_))
 refine RL_cons (O_box (by exact wn0 rfl) (by rfl) (by rfl) (by rfl) H (fun w12 b11 (H : Sep ok w w12 [.blk b9 79 [.slice A1 a0.Arena.Slots.length cp2, .slice A5 a0.Kids.length cp6], .blk b11 81 [.int .i64 a1.Slot, .int .i64 a1.Gen]] [RE.rd k_Slot A1 cp2 a0.Arena.Slots, RE.rd (Kd.slice k_Handle) A5 cp6 a0.Kids]) => ?_))
 refine RL_cons (O_box (by exact wn0 rfl) (by rfl) (by rfl) (by rfl) H (fun w14 b13 (H : Sep ok w w14 [.blk b9 79 [.slice A1 a0.Arena.Slots.length cp2, .slice A5 a0.Kids.length cp6], .blk b11 81 [.int .i64 a1.Slot, .int .i64 a1.Gen], .blk b13 81 [.int .i64 a2.Slot, .int .i64 a2.Gen]] [RE.rd k_Slot A1 cp2 a0.Arena.Slots, RE.rd (Kd.slice k_Handle) A5 cp6 a0.Kids]) => ?_))
 refine RL_cons (O_alloc (by exact wn0 rfl) (by rfl) ze79 (by rfl) H (fun w16 b15 (H : Sep ok w w16 [.blk b9 79 [.slice A1 a0.Arena.Slots.length cp2, .slice A5 a0.Kids.length cp6], .blk b11 81 [.int .i64 a1.Slot, .int .i64 a1.Gen], .blk b13 81 [.int .i64 a2.Slot, .int .i64 a2.Gen], .blk b15 79 [.slice none 0 0, .slice none 0 0]] [RE.rd k_Slot A1 cp2 a0.Arena.Slots, RE.rd (Kd.slice k_Handle) A5 cp6 a0.Kids]) => ?_))
 refine RL_pure (by exact wn0 rfl) (by rfl) (by rfl) (x_assign (v := .int .i64 0) (by rfl)) ?_
 refine RL_nil ?_
 refine W_seq ?_
 refine W_seq ?_
 refine W_region ?_
 refine RL_pure (by exact wn0 rfl) (by rfl) (by rfl) (x_loadA (j := 0) (vs := [.slice A1 a0.Arena.Slots.length cp2, .slice A5 a0.Kids.length cp6]) ag79 (by rfl) (H.cells (i := 0) (by rfl)) (by rfl) (by rfl)) ?_
 refine RL_pure (by exact wn0 rfl) (by rfl) (by rfl) (x_loadA (j := 0) (vs := [.int .i64 a1.Slot, .int .i64 a1.Gen]) ag81 (by rfl) (H.cells (i := 1) (by rfl)) (by rfl) (by rfl)) ?_
 refine RL_pure (by exact wn0 rfl) (by rfl) (by rfl) (x_loadA (j := 0) (vs := [.int .i64 a2.Slot, .int .i64 a2.Gen]) ag81 (by rfl) (H.cells (i := 2) (by rfl)) (by rfl) (by rfl)) ?_
 refine RL_cons (O_buildSlice (vs := [(0, .agg #[.int .i64 a1.Slot, .int .i64 a1.Gen]), (1, .agg #[.int .i64 a2.Slot, .int .i64 a2.Gen])]) (cs := [.int .i64 a1.Slot, .int .i64 a1.Gen, .int .i64 a2.Slot, .int .i64 a2.Gen]) (by exact wn0 rfl) (by rfl) sl87 sz81 ze81 (by rfl) (by rfl) (by rfl) (by kernel_rfl) H (fun w18 b17 (H : Sep ok w w18 [.blk b9 79 [.slice A1 a0.Arena.Slots.length cp2, .slice A5 a0.Kids.length cp6], .blk b11 81 [.int .i64 a1.Slot, .int .i64 a1.Gen], .blk b13 81 [.int .i64 a2.Slot, .int .i64 a2.Gen], .blk b15 79 [.slice none 0 0, .slice none 0 0], .blk b17 81 [.int .i64 a1.Slot, .int .i64 a1.Gen, .int .i64 a2.Slot, .int .i64 a2.Gen]] [RE.rd k_Slot A1 cp2 a0.Arena.Slots, RE.rd (Kd.slice k_Handle) A5 cp6 a0.Kids]) => ?_))
 have H : Sep ok w w18 [.blk b9 79 [.slice A1 a0.Arena.Slots.length cp2, .slice A5 a0.Kids.length cp6], .blk b11 81 [.int .i64 a1.Slot, .int .i64 a1.Gen], .blk b13 81 [.int .i64 a2.Slot, .int .i64 a2.Gen], .blk b15 79 [.slice none 0 0, .slice none 0 0], .row (.slice (some ⟨b17, 0, none⟩) ([a1, a2]).length 2) 81 k_Handle.sz ([a1, a2]).length [.int .i64 a1.Slot, .int .i64 a1.Gen, .int .i64 a2.Slot, .int .i64 a2.Gen]] [RE.rd k_Slot A1 cp2 a0.Arena.Slots, RE.rd (Kd.slice k_Handle) A5 cp6 a0.Kids, RE.chunks k_Handle [.int .i64 a1.Slot, .int .i64 a1.Gen, .int .i64 a2.Slot, .int .i64 a2.Gen] ([a1, a2])] := H.rowOf (i := 4) (D := k_Handle) (xs := [a1, a2]) (by rfl) (by exact ⟨rfl, rfl, rfl⟩) (by rfl)
 obtain ⟨v22, hv21, hm⟩ := bind_some hm
 refine RL_cons (O_call (by exact wn0 rfl) (by rfl) (by rfl) (x_callL (by rfl) (args := [.agg #[.slice A1 a0.Arena.Slots.length cp2, .slice A5 a0.Kids.length cp6], .slice (some ⟨b17, 0, none⟩) ([a1, a2]).length 2]) (by rfl) (cf79 _ _)) (c79 okT K w18 a0 A1 cp2 A5 cp6 ([a1, a2]) (some ⟨b17, 0, none⟩) 2 (H.rd (i := 0) (by rfl)).any (H.rd (i := 1) (by rfl)).any (H.rowRd (i := 4) (j := 2) (by rfl) (by rfl)) v22 hv21) ?_)
 rintro e w23 ⟨rfl, H2⟩
 have H : Sep ok w w23 [.blk b9 79 [.slice A1 a0.Arena.Slots.length cp2, .slice A5 a0.Kids.length cp6], .blk b11 81 [.int .i64 a1.Slot, .int .i64 a1.Gen], .blk b13 81 [.int .i64 a2.Slot, .int .i64 a2.Gen], .blk b15 79 [.slice none 0 0, .slice none 0 0], .row (.slice (some ⟨b17, 0, none⟩) ([a1, a2]).length 2) 81 k_Handle.sz ([a1, a2]).length [.int .i64 a1.Slot, .int .i64 a1.Gen, .int .i64 a2.Slot, .int .i64 a2.Gen]] [RE.rd k_Slot A1 cp2 a0.Arena.Slots, RE.rd (Kd.slice k_Handle) A5 cp6 a0.Kids, RE.chunks k_Handle [.int .i64 a1.Slot, .int .i64 a1.Gen, .int .i64 a2.Slot, .int .i64 a2.Gen] ([a1, a2])] := H.below H2.base
 clear H2
 refine ⟨_, rfl, ?_⟩
 show RL _ _ _ _ _ _ _
 refine RL_pure (by exact wn0 rfl) (by rfl) (by rfl) (x_assign (v := .int .i64 v22) (by rfl)) ?_
 refine RL_nil ?_
 refine W_seq ?_
 refine W_region ?_
 refine RL_pure (by exact wn0 rfl) (by rfl) (by rfl) (x_move (v := .int .i64 v22) (by rfl)) ?_
 refine RL_pure (by exact wn0 rfl) (by rfl) (by rfl) (x_neq (by rfl) (by rfl)) ?_
 refine RL_nil ?_
 refine W_cond (by rfl) (fun hb => ?_) (fun hb => ?_)
 ·have hm := cond_t hb hm
  refine W_seq ?_
  refine W_region ?_
  refine RL_pure (by exact wn0 rfl) (by rfl) (by rfl) (x_build (vs := []) (cs := [.slice none 0 0, .slice none 0 0]) (by rfl) (by kernel_rfl)) ?_
  refine RL_pure (by exact wn0 rfl) (by rfl) (by rfl) (x_move (v := .int .i64 v22) (by rfl)) ?_
  refine RL_cons (O_store (i := 3) (off := 0) (by exact wn0 rfl) (by rfl) (by rfl) H (by rfl) (vs := [.slice none 0 0, .slice none 0 0]) (by rfl) sz79 (by rfl) (by rfl) (by rfl) (fun w24 (H : Sep ok w w24 [.blk b9 79 [.slice A1 a0.Arena.Slots.length cp2, .slice A5 a0.Kids.length cp6], .blk b11 81 [.int .i64 a1.Slot, .int .i64 a1.Gen], .blk b13 81 [.int .i64 a2.Slot, .int .i64 a2.Gen], .blk b15 79 [.slice none 0 0, .slice none 0 0], .row (.slice (some ⟨b17, 0, none⟩) ([a1, a2]).length 2) 81 k_Handle.sz ([a1, a2]).length [.int .i64 a1.Slot, .int .i64 a1.Gen, .int .i64 a2.Slot, .int .i64 a2.Gen]] [RE.rd k_Slot A1 cp2 a0.Arena.Slots, RE.rd (Kd.slice k_Handle) A5 cp6 a0.Kids, RE.chunks k_Handle [.int .i64 a1.Slot, .int .i64 a1.Gen, .int .i64 a2.Slot, .int .i64 a2.Gen] ([a1, a2])]) => ?_))
  refine RL_pure (by exact wn0 rfl) (by rfl) (by rfl) (x_assign (v := .int .i64 v22) (by rfl)) ?_
  refine RL_nil ?_
  refine W_ret ?_
  have H : Sep ok w w24 [.blk b9 79 [.slice A1 a0.Arena.Slots.length cp2, .slice A5 a0.Kids.length cp6], .blk b11 81 [.int .i64 a1.Slot, .int .i64 a1.Gen], .blk b13 81 [.int .i64 a2.Slot, .int .i64 a2.Gen], .blk b15 79 [.slice none 0 0, .slice none 0 0], .row (.slice (some ⟨b17, 0, none⟩) ([a1, a2]).length 2) 81 k_Handle.sz ([a1, a2]).length [.int .i64 a1.Slot, .int .i64 a1.Gen, .int .i64 a2.Slot, .int .i64 a2.Gen]] [RE.rd k_Slot A1 cp2 a0.Arena.Slots, RE.rd (Kd.slice k_Handle) A5 cp6 a0.Kids, RE.chunks k_Handle [.int .i64 a1.Slot, .int .i64 a1.Gen, .int .i64 a2.Slot, .int .i64 a2.Gen] ([a1, a2]), RE.fr w.heap.size k_Slot none 0 ([])] := Sep.also H (re := RE.fr w.heap.size k_Slot none 0 ([])) (Rd.nil (by decide))
  have H : Sep ok w w24 [.blk b9 79 [.slice A1 a0.Arena.Slots.length cp2, .slice A5 a0.Kids.length cp6], .blk b11 81 [.int .i64 a1.Slot, .int .i64 a1.Gen], .blk b13 81 [.int .i64 a2.Slot, .int .i64 a2.Gen], .blk b15 79 [.slice none 0 0, .slice none 0 0], .row (.slice (some ⟨b17, 0, none⟩) ([a1, a2]).length 2) 81 k_Handle.sz ([a1, a2]).length [.int .i64 a1.Slot, .int .i64 a1.Gen, .int .i64 a2.Slot, .int .i64 a2.Gen]] [RE.rd k_Slot A1 cp2 a0.Arena.Slots, RE.rd (Kd.slice k_Handle) A5 cp6 a0.Kids, RE.chunks k_Handle [.int .i64 a1.Slot, .int .i64 a1.Gen, .int .i64 a2.Slot, .int .i64 a2.Gen] ([a1, a2]), RE.fr w.heap.size k_Slot none 0 ([]), RE.fr w.heap.size (Kd.slice k_Handle) none 0 ([])] := Sep.also H (re := RE.fr w.heap.size (Kd.slice k_Handle) none 0 ([])) (Rd.nil (by decide))
  obtain rfl := Option.some.inj hm
  exact ⟨[.agg #[.slice none 0 0, .slice none 0 0], .int .i64 v22], (.cellA (by rfl) ag79 (H.cells (i := 3) (by rfl)) (by rfl) (.tmp (by rfl) rfl)), none, 0, none, 0, rfl, (H.forgetAll).pick [3, 4]⟩
 ·have hm := cond_f hb hm
  refine W_skip ?_
  refine W_seq ?_
  refine W_region ?_
  refine RL_pure (by exact wn0 rfl) (by rfl) (by rfl) (x_fieldAddr fo79_1 (by rfl)) ?_
  refine RL_pure (by exact wn0 rfl) (by rfl) (by rfl) (x_load (j := 1) (v := .slice A5 a0.Kids.length cp6) sc77 (by rfl) (H.cells (i := 0) (by rfl)) (by rfl)) ?_
  refine RL_pure (by exact wn0 rfl) (by rfl) (by rfl) (x_fieldAddr fo81_0 (by rfl)) ?_
  refine RL_pure (by exact wn0 rfl) (by rfl) (by rfl) (x_load (j := 0) (v := .int .i64 a1.Slot) sc3 (by rfl) (H.cells (i := 1) (by rfl)) (by rfl)) ?_
  obtain ⟨el27, h28, h29, he30, hm⟩ := idx_some hm
  obtain ⟨g32, o33, hA31⟩ := (H.rd (i := 1) (by rfl)).addr he30
  obtain ⟨cs34, hk35, hat36, hg_cs34⟩ := (H.rd (i := 1) (by rfl)).openAt hA31 he30
  obtain ⟨A39, cp40, rfl, hR42⟩ := hk35
  have H : Sep ok w w23 [.blk b9 79 [.slice A1 a0.Arena.Slots.length cp2, .slice A5 a0.Kids.length cp6], .blk b11 81 [.int .i64 a1.Slot, .int .i64 a1.Gen], .blk b13 81 [.int .i64 a2.Slot, .int .i64 a2.Gen], .blk b15 79 [.slice none 0 0, .slice none 0 0], .row (.slice (some ⟨b17, 0, none⟩) ([a1, a2]).length 2) 81 k_Handle.sz ([a1, a2]).length [.int .i64 a1.Slot, .int .i64 a1.Gen, .int .i64 a2.Slot, .int .i64 a2.Gen]] [RE.rd k_Slot A1 cp2 a0.Arena.Slots, RE.rd (Kd.slice k_Handle) A5 cp6 a0.Kids, RE.chunks k_Handle [.int .i64 a1.Slot, .int .i64 a1.Gen, .int .i64 a2.Slot, .int .i64 a2.Gen] ([a1, a2]), RE.cells g32 (o33 + (a1.Slot).toNat * 1) [.slice A39 el27.length cp40]] := Sep.also H (re := RE.cells g32 (o33 + (a1.Slot).toNat * 1) [.slice A39 el27.length cp40]) ⟨hg_cs34, hat36⟩
  have H : Sep ok w w23 [.blk b9 79 [.slice A1 a0.Arena.Slots.length cp2, .slice A5 a0.Kids.length cp6], .blk b11 81 [.int .i64 a1.Slot, .int .i64 a1.Gen], .blk b13 81 [.int .i64 a2.Slot, .int .i64 a2.Gen], .blk b15 79 [.slice none 0 0, .slice none 0 0], .row (.slice (some ⟨b17, 0, none⟩) ([a1, a2]).length 2) 81 k_Handle.sz ([a1, a2]).length [.int .i64 a1.Slot, .int .i64 a1.Gen, .int .i64 a2.Slot, .int .i64 a2.Gen]] [RE.rd k_Slot A1 cp2 a0.Arena.Slots, RE.rd (Kd.slice k_Handle) A5 cp6 a0.Kids, RE.chunks k_Handle [.int .i64 a1.Slot, .int .i64 a1.Gen, .int .i64 a2.Slot, .int .i64 a2.Gen] ([a1, a2]), RE.cells g32 (o33 + (a1.Slot).toNat * 1) [.slice A39 el27.length cp40], RE.rd k_Handle A39 cp40 el27] := Sep.also H (re := RE.rd k_Handle A39 cp40 el27) hR42
  refine RL_pure (by exact wn0 rfl) (by rfl) (by rfl) (x_indexAddr sl77 sz87 (by rfl) (by rfl) hA31 h28 h29) ?_
  refine RL_pure (by exact wn0 rfl) (by rfl) (by rfl) (x_load (j := 0) (v := .slice A39 el27.length cp40) sc87 (by rfl) (H.cellsR (i := 3) (by rfl)) (by rfl)) ?_
  refine RL_pure (by exact wn0 rfl) (by rfl) (by rfl) (x_assign (v := .slice A39 el27.length cp40) (by rfl)) ?_
  refine RL_nil ?_
  refine W_seq ?_
  refine W_block ?_
  refine W_join (fun r' w' => ∃ (y27_1 : Bool), m38_j1 K a0 a1 a2 a3 el27 y27_1 = some res ∧ Agr [(3, .int .i64 a3), (4, .pointer (some ⟨b9, 0, none⟩)), (5, .pointer (some ⟨b11, 0, none⟩)), (6, .pointer (some ⟨b13, 0, none⟩)), (8, .pointer (some ⟨b15, 0, none⟩)), (11, .slice A39 el27.length cp40), (27, .bool y27_1)] r' ∧ Sep ok w w' [.blk b9 79 [.slice A1 a0.Arena.Slots.length cp2, .slice A5 a0.Kids.length cp6], .blk b11 81 [.int .i64 a1.Slot, .int .i64 a1.Gen], .blk b13 81 [.int .i64 a2.Slot, .int .i64 a2.Gen], .blk b15 79 [.slice none 0 0, .slice none 0 0], .row (.slice (some ⟨b17, 0, none⟩) ([a1, a2]).length 2) 81 k_Handle.sz ([a1, a2]).length [.int .i64 a1.Slot, .int .i64 a1.Gen, .int .i64 a2.Slot, .int .i64 a2.Gen]] [RE.rd k_Slot A1 cp2 a0.Arena.Slots, RE.rd (Kd.slice k_Handle) A5 cp6 a0.Kids, RE.chunks k_Handle [.int .i64 a1.Slot, .int .i64 a1.Gen, .int .i64 a2.Slot, .int .i64 a2.Gen] ([a1, a2]), RE.cells g32 (o33 + (a1.Slot).toNat * 1) [.slice A39 el27.length cp40], RE.rd k_Handle A39 cp40 el27]) ?_ ?_
  ·show W _ _ _ _ _ _
   refine W_seq ?_
   refine W_region ?_
   refine RL_pure (by exact wn0 rfl) (by rfl) (by rfl) (x_move (v := .int .i64 a3) (by rfl)) ?_
   refine RL_pure (by exact wn0 rfl) (by rfl) (by rfl) (x_lss (by rfl) (by rfl)) ?_
   refine RL_pure (by exact wn0 rfl) (by rfl) (by rfl) (x_assign (v := .bool (decide (a3 < 0))) (by rfl)) ?_
   refine RL_nil ?_
   refine W_cond (by rfl) (fun hb => ?_) (fun hb => ?_)
   ·have hm := cond_t hb hm
    refine W_skip ?_
    exact ⟨(decide (a3 < 0)), hm, ⟨rfl, rfl, rfl, rfl, rfl, rfl, rfl, trivial⟩, H⟩
   ·have hm := cond_f hb hm
    refine W_region ?_
    refine RL_pure (by exact wn0 rfl) (by rfl) (by rfl) (x_move (v := .int .i64 a3) (by rfl)) ?_
    refine RL_pure (by exact wn0 rfl) (by rfl) (by rfl) (x_move (v := .slice A39 el27.length cp40) (by rfl)) ?_
    refine RL_pure (by exact wn0 rfl) (by rfl) (by rfl) (x_len sl87 (by rfl)) ?_
    refine RL_pure (by exact wn0 rfl) (by rfl) (by rfl) (x_gtr (by rfl) (by rfl)) ?_
    refine RL_pure (by exact wn0 rfl) (by rfl) (by rfl) (x_assign (v := .bool (decide ((el27.length : Int) < a3))) (by rfl)) ?_
    refine RL_nil ?_
    exact ⟨(decide ((el27.length : Int) < a3)), hm, ⟨rfl, rfl, rfl, rfl, rfl, rfl, rfl, trivial⟩, H⟩
  ·rintro r' w' ⟨y27_1, hm, hA, H⟩
   obtain ⟨r44, rfl⟩ := regen _ hA; clear hA
   obtain ⟨w45, rfl⟩ : ∃ W : World, W = w' := ⟨_, rfl⟩
   unfold m38_j1 at hm
   refine W_cond (by rfl) (fun hb => ?_) (fun hb => ?_)
   ·have hm := cond_t hb hm
    refine W_seq ?_
    refine W_region ?_
    refine RL_pure (by exact wn0 rfl) (by rfl) (by rfl) (x_build (vs := []) (cs := [.slice none 0 0, .slice none 0 0]) (by rfl) (by kernel_rfl)) ?_
    refine RL_cons (O_store (i := 3) (off := 0) (by exact wn0 rfl) (by rfl) (by rfl) H (by rfl) (vs := [.slice none 0 0, .slice none 0 0]) (by rfl) sz79 (by rfl) (by rfl) (by rfl) (fun w46 (H : Sep ok w w46 [.blk b9 79 [.slice A1 a0.Arena.Slots.length cp2, .slice A5 a0.Kids.length cp6], .blk b11 81 [.int .i64 a1.Slot, .int .i64 a1.Gen], .blk b13 81 [.int .i64 a2.Slot, .int .i64 a2.Gen], .blk b15 79 [.slice none 0 0, .slice none 0 0], .row (.slice (some ⟨b17, 0, none⟩) ([a1, a2]).length 2) 81 k_Handle.sz ([a1, a2]).length [.int .i64 a1.Slot, .int .i64 a1.Gen, .int .i64 a2.Slot, .int .i64 a2.Gen]] [RE.rd k_Slot A1 cp2 a0.Arena.Slots, RE.rd (Kd.slice k_Handle) A5 cp6 a0.Kids, RE.chunks k_Handle [.int .i64 a1.Slot, .int .i64 a1.Gen, .int .i64 a2.Slot, .int .i64 a2.Gen] ([a1, a2]), RE.cells g32 (o33 + (a1.Slot).toNat * 1) [.slice A39 el27.length cp40], RE.rd k_Handle A39 cp40 el27]) => ?_))
    refine RL_pure (by exact wn0 rfl) (by rfl) (by rfl) (x_assign (v := .int .i64 2) (by rfl)) ?_
    refine RL_nil ?_
    refine W_ret ?_
    have H : Sep ok w w46 [.blk b9 79 [.slice A1 a0.Arena.Slots.length cp2, .slice A5 a0.Kids.length cp6], .blk b11 81 [.int .i64 a1.Slot, .int .i64 a1.Gen], .blk b13 81 [.int .i64 a2.Slot, .int .i64 a2.Gen], .blk b15 79 [.slice none 0 0, .slice none 0 0], .row (.slice (some ⟨b17, 0, none⟩) ([a1, a2]).length 2) 81 k_Handle.sz ([a1, a2]).length [.int .i64 a1.Slot, .int .i64 a1.Gen, .int .i64 a2.Slot, .int .i64 a2.Gen]] [RE.rd k_Slot A1 cp2 a0.Arena.Slots, RE.rd (Kd.slice k_Handle) A5 cp6 a0.Kids, RE.chunks k_Handle [.int .i64 a1.Slot, .int .i64 a1.Gen, .int .i64 a2.Slot, .int .i64 a2.Gen] ([a1, a2]), RE.cells g32 (o33 + (a1.Slot).toNat * 1) [.slice A39 el27.length cp40], RE.rd k_Handle A39 cp40 el27, RE.fr w.heap.size k_Slot none 0 ([])] := Sep.also H (re := RE.fr w.heap.size k_Slot none 0 ([])) (Rd.nil (by decide))
    have H : Sep ok w w46 [.blk b9 79 [.slice A1 a0.Arena.Slots.length cp2, .slice A5 a0.Kids.length cp6], .blk b11 81 [.int .i64 a1.Slot, .int .i64 a1.Gen], .blk b13 81 [.int .i64 a2.Slot, .int .i64 a2.Gen], .blk b15 79 [.slice none 0 0, .slice none 0 0], .row (.slice (some ⟨b17, 0, none⟩) ([a1, a2]).length 2) 81 k_Handle.sz ([a1, a2]).length [.int .i64 a1.Slot, .int .i64 a1.Gen, .int .i64 a2.Slot, .int .i64 a2.Gen]] [RE.rd k_Slot A1 cp2 a0.Arena.Slots, RE.rd (Kd.slice k_Handle) A5 cp6 a0.Kids, RE.chunks k_Handle [.int .i64 a1.Slot, .int .i64 a1.Gen, .int .i64 a2.Slot, .int .i64 a2.Gen] ([a1, a2]), RE.cells g32 (o33 + (a1.Slot).toNat * 1) [.slice A39 el27.length cp40], RE.rd k_Handle A39 cp40 el27, RE.fr w.heap.size k_Slot none 0 ([]), RE.fr w.heap.size (Kd.slice k_Handle) none 0 ([])] := Sep.also H (re := RE.fr w.heap.size (Kd.slice k_Handle) none 0 ([])) (Rd.nil (by decide))
    obtain rfl := Option.some.inj hm
    exact ⟨[.agg #[.slice none 0 0, .slice none 0 0], .int .i64 2], (.cellA (by rfl) ag79 (H.cells (i := 3) (by rfl)) (by rfl) (.tmp (by rfl) rfl)), none, 0, none, 0, rfl, (H.forgetAll).pick [5, 6]⟩
   ·have hm := cond_f hb hm
    refine W_seq ?_
    refine W_region ?_
    refine RL_pure (by exact wn0 rfl) (by rfl) (by rfl) (x_move (v := .slice A39 el27.length cp40) (by rfl)) ?_
    refine RL_pure (by exact wn0 rfl) (by rfl) (by rfl) (x_len sl87 (by rfl)) ?_
    refine RL_pure (by exact wn0 rfl) (by rfl) (by rfl) (x_eql (by rfl) (by rfl)) ?_
    refine RL_pure (by exact wn0 rfl) (by rfl) (by rfl) (x_assign (v := .bool ((el27.length : Int) == 16)) (by rfl)) ?_
    refine RL_nil ?_
    refine W_cond (by rfl) (fun hb => ?_) (fun hb => ?_)
    ·have hm := cond_t hb hm
     refine W_seq ?_
     refine W_region ?_
     refine RL_pure (by exact wn0 rfl) (by rfl) (by rfl) (x_build (vs := []) (cs := [.slice none 0 0, .slice none 0 0]) (by rfl) (by kernel_rfl)) ?_
     refine RL_cons (O_store (i := 3) (off := 0) (by exact wn0 rfl) (by rfl) (by rfl) H (by rfl) (vs := [.slice none 0 0, .slice none 0 0]) (by rfl) sz79 (by rfl) (by rfl) (by rfl) (fun w49 (H : Sep ok w w49 [.blk b9 79 [.slice A1 a0.Arena.Slots.length cp2, .slice A5 a0.Kids.length cp6], .blk b11 81 [.int .i64 a1.Slot, .int .i64 a1.Gen], .blk b13 81 [.int .i64 a2.Slot, .int .i64 a2.Gen], .blk b15 79 [.slice none 0 0, .slice none 0 0], .row (.slice (some ⟨b17, 0, none⟩) ([a1, a2]).length 2) 81 k_Handle.sz ([a1, a2]).length [.int .i64 a1.Slot, .int .i64 a1.Gen, .int .i64 a2.Slot, .int .i64 a2.Gen]] [RE.rd k_Slot A1 cp2 a0.Arena.Slots, RE.rd (Kd.slice k_Handle) A5 cp6 a0.Kids, RE.chunks k_Handle [.int .i64 a1.Slot, .int .i64 a1.Gen, .int .i64 a2.Slot, .int .i64 a2.Gen] ([a1, a2]), RE.cells g32 (o33 + (a1.Slot).toNat * 1) [.slice A39 el27.length cp40], RE.rd k_Handle A39 cp40 el27]) => ?_))
     refine RL_pure (by exact wn0 rfl) (by rfl) (by rfl) (x_assign (v := .int .i64 9) (by rfl)) ?_
     refine RL_nil ?_
     refine W_ret ?_
     have H : Sep ok w w49 [.blk b9 79 [.slice A1 a0.Arena.Slots.length cp2, .slice A5 a0.Kids.length cp6], .blk b11 81 [.int .i64 a1.Slot, .int .i64 a1.Gen], .blk b13 81 [.int .i64 a2.Slot, .int .i64 a2.Gen], .blk b15 79 [.slice none 0 0, .slice none 0 0], .row (.slice (some ⟨b17, 0, none⟩) ([a1, a2]).length 2) 81 k_Handle.sz ([a1, a2]).length [.int .i64 a1.Slot, .int .i64 a1.Gen, .int .i64 a2.Slot, .int .i64 a2.Gen]] [RE.rd k_Slot A1 cp2 a0.Arena.Slots, RE.rd (Kd.slice k_Handle) A5 cp6 a0.Kids, RE.chunks k_Handle [.int .i64 a1.Slot, .int .i64 a1.Gen, .int .i64 a2.Slot, .int .i64 a2.Gen] ([a1, a2]), RE.cells g32 (o33 + (a1.Slot).toNat * 1) [.slice A39 el27.length cp40], RE.rd k_Handle A39 cp40 el27, RE.fr w.heap.size k_Slot none 0 ([])] := Sep.also H (re := RE.fr w.heap.size k_Slot none 0 ([])) (Rd.nil (by decide))
     have H : Sep ok w w49 [.blk b9 79 [.slice A1 a0.Arena.Slots.length cp2, .slice A5 a0.Kids.length cp6], .blk b11 81 [.int .i64 a1.Slot, .int .i64 a1.Gen], .blk b13 81 [.int .i64 a2.Slot, .int .i64 a2.Gen], .blk b15 79 [.slice none 0 0, .slice none 0 0], .row (.slice (some ⟨b17, 0, none⟩) ([a1, a2]).length 2) 81 k_Handle.sz ([a1, a2]).length [.int .i64 a1.Slot, .int .i64 a1.Gen, .int .i64 a2.Slot, .int .i64 a2.Gen]] [RE.rd k_Slot A1 cp2 a0.Arena.Slots, RE.rd (Kd.slice k_Handle) A5 cp6 a0.Kids, RE.chunks k_Handle [.int .i64 a1.Slot, .int .i64 a1.Gen, .int .i64 a2.Slot, .int .i64 a2.Gen] ([a1, a2]), RE.cells g32 (o33 + (a1.Slot).toNat * 1) [.slice A39 el27.length cp40], RE.rd k_Handle A39 cp40 el27, RE.fr w.heap.size k_Slot none 0 ([]), RE.fr w.heap.size (Kd.slice k_Handle) none 0 ([])] := Sep.also H (re := RE.fr w.heap.size (Kd.slice k_Handle) none 0 ([])) (Rd.nil (by decide))
     obtain rfl := Option.some.inj hm
     exact ⟨[.agg #[.slice none 0 0, .slice none 0 0], .int .i64 9], (.cellA (by rfl) ag79 (H.cells (i := 3) (by rfl)) (by rfl) (.tmp (by rfl) rfl)), none, 0, none, 0, rfl, (H.forgetAll).pick [5, 6]⟩
    ·have hm := cond_f hb hm
     refine W_seq ?_
     refine W_region ?_
     refine RL_pure (by exact wn0 rfl) (by rfl) (by rfl) (x_loadA (j := 0) (vs := [.slice A1 a0.Arena.Slots.length cp2, .slice A5 a0.Kids.length cp6]) ag79 (by rfl) (H.cells (i := 0) (by rfl)) (by rfl) (by rfl)) ?_
     refine RL_pure (by exact wn0 rfl) (by rfl) (by rfl) (x_loadA (j := 0) (vs := [.int .i64 a2.Slot, .int .i64 a2.Gen]) ag81 (by rfl) (H.cells (i := 2) (by rfl)) (by rfl) (by rfl)) ?_
     refine RL_pure (by exact wn0 rfl) (by rfl) (by rfl) (x_loadA (j := 0) (vs := [.int .i64 a1.Slot, .int .i64 a1.Gen]) ag81 (by rfl) (H.cells (i := 1) (by rfl)) (by rfl) (by rfl)) ?_
     obtain ⟨v53, hv52, hm⟩ := bind_some hm
     refine RL_cons (O_call (by exact wn0 rfl) (by rfl) (by rfl) (x_callL (by rfl) (args := [.agg #[.slice A1 a0.Arena.Slots.length cp2, .slice A5 a0.Kids.length cp6], .agg #[.int .i64 a2.Slot, .int .i64 a2.Gen], .agg #[.int .i64 a1.Slot, .int .i64 a1.Gen]]) (by rfl) (cf80 _ _)) (c80 okT K w45 a0 A1 cp2 A5 cp6 a2 a1 (H.rd (i := 0) (by rfl)).any (H.rd (i := 1) (by rfl)).any v53 hv52) ?_)
     rintro e w54 ⟨rfl, H2⟩
     have H : Sep ok w w54 [.blk b9 79 [.slice A1 a0.Arena.Slots.length cp2, .slice A5 a0.Kids.length cp6], .blk b11 81 [.int .i64 a1.Slot, .int .i64 a1.Gen], .blk b13 81 [.int .i64 a2.Slot, .int .i64 a2.Gen], .blk b15 79 [.slice none 0 0, .slice none 0 0], .row (.slice (some ⟨b17, 0, none⟩) ([a1, a2]).length 2) 81 k_Handle.sz ([a1, a2]).length [.int .i64 a1.Slot, .int .i64 a1.Gen, .int .i64 a2.Slot, .int .i64 a2.Gen]] [RE.rd k_Slot A1 cp2 a0.Arena.Slots, RE.rd (Kd.slice k_Handle) A5 cp6 a0.Kids, RE.chunks k_Handle [.int .i64 a1.Slot, .int .i64 a1.Gen, .int .i64 a2.Slot, .int .i64 a2.Gen] ([a1, a2]), RE.cells g32 (o33 + (a1.Slot).toNat * 1) [.slice A39 el27.length cp40], RE.rd k_Handle A39 cp40 el27] := H.below H2.base
     clear H2
     refine ⟨_, rfl, ?_⟩
     show RL _ _ _ _ _ _ _
     refine RL_pure (by exact wn0 rfl) (by rfl) (by rfl) (x_assign (v := .bool v53) (by rfl)) ?_
     refine RL_nil ?_
     refine W_cond (by rfl) (fun hb => ?_) (fun hb => ?_)
     ·have hm := cond_t hb hm
      refine W_seq ?_
      refine W_region ?_
      refine RL_pure (by exact wn0 rfl) (by rfl) (by rfl) (x_build (vs := []) (cs := [.slice none 0 0, .slice none 0 0]) (by rfl) (by kernel_rfl)) ?_
      refine RL_cons (O_store (i := 3) (off := 0) (by exact wn0 rfl) (by rfl) (by rfl) H (by rfl) (vs := [.slice none 0 0, .slice none 0 0]) (by rfl) sz79 (by rfl) (by rfl) (by rfl) (fun w55 (H : Sep ok w w55 [.blk b9 79 [.slice A1 a0.Arena.Slots.length cp2, .slice A5 a0.Kids.length cp6], .blk b11 81 [.int .i64 a1.Slot, .int .i64 a1.Gen], .blk b13 81 [.int .i64 a2.Slot, .int .i64 a2.Gen], .blk b15 79 [.slice none 0 0, .slice none 0 0], .row (.slice (some ⟨b17, 0, none⟩) ([a1, a2]).length 2) 81 k_Handle.sz ([a1, a2]).length [.int .i64 a1.Slot, .int .i64 a1.Gen, .int .i64 a2.Slot, .int .i64 a2.Gen]] [RE.rd k_Slot A1 cp2 a0.Arena.Slots, RE.rd (Kd.slice k_Handle) A5 cp6 a0.Kids, RE.chunks k_Handle [.int .i64 a1.Slot, .int .i64 a1.Gen, .int .i64 a2.Slot, .int .i64 a2.Gen] ([a1, a2]), RE.cells g32 (o33 + (a1.Slot).toNat * 1) [.slice A39 el27.length cp40], RE.rd k_Handle A39 cp40 el27]) => ?_))
      refine RL_pure (by exact wn0 rfl) (by rfl) (by rfl) (x_assign (v := .int .i64 60) (by rfl)) ?_
      refine RL_nil ?_
      refine W_ret ?_
      have H : Sep ok w w55 [.blk b9 79 [.slice A1 a0.Arena.Slots.length cp2, .slice A5 a0.Kids.length cp6], .blk b11 81 [.int .i64 a1.Slot, .int .i64 a1.Gen], .blk b13 81 [.int .i64 a2.Slot, .int .i64 a2.Gen], .blk b15 79 [.slice none 0 0, .slice none 0 0], .row (.slice (some ⟨b17, 0, none⟩) ([a1, a2]).length 2) 81 k_Handle.sz ([a1, a2]).length [.int .i64 a1.Slot, .int .i64 a1.Gen, .int .i64 a2.Slot, .int .i64 a2.Gen]] [RE.rd k_Slot A1 cp2 a0.Arena.Slots, RE.rd (Kd.slice k_Handle) A5 cp6 a0.Kids, RE.chunks k_Handle [.int .i64 a1.Slot, .int .i64 a1.Gen, .int .i64 a2.Slot, .int .i64 a2.Gen] ([a1, a2]), RE.cells g32 (o33 + (a1.Slot).toNat * 1) [.slice A39 el27.length cp40], RE.rd k_Handle A39 cp40 el27, RE.fr w.heap.size k_Slot none 0 ([])] := Sep.also H (re := RE.fr w.heap.size k_Slot none 0 ([])) (Rd.nil (by decide))
      have H : Sep ok w w55 [.blk b9 79 [.slice A1 a0.Arena.Slots.length cp2, .slice A5 a0.Kids.length cp6], .blk b11 81 [.int .i64 a1.Slot, .int .i64 a1.Gen], .blk b13 81 [.int .i64 a2.Slot, .int .i64 a2.Gen], .blk b15 79 [.slice none 0 0, .slice none 0 0], .row (.slice (some ⟨b17, 0, none⟩) ([a1, a2]).length 2) 81 k_Handle.sz ([a1, a2]).length [.int .i64 a1.Slot, .int .i64 a1.Gen, .int .i64 a2.Slot, .int .i64 a2.Gen]] [RE.rd k_Slot A1 cp2 a0.Arena.Slots, RE.rd (Kd.slice k_Handle) A5 cp6 a0.Kids, RE.chunks k_Handle [.int .i64 a1.Slot, .int .i64 a1.Gen, .int .i64 a2.Slot, .int .i64 a2.Gen] ([a1, a2]), RE.cells g32 (o33 + (a1.Slot).toNat * 1) [.slice A39 el27.length cp40], RE.rd k_Handle A39 cp40 el27, RE.fr w.heap.size k_Slot none 0 ([]), RE.fr w.heap.size (Kd.slice k_Handle) none 0 ([])] := Sep.also H (re := RE.fr w.heap.size (Kd.slice k_Handle) none 0 ([])) (Rd.nil (by decide))
      obtain rfl := Option.some.inj hm
      exact ⟨[.agg #[.slice none 0 0, .slice none 0 0], .int .i64 60], (.cellA (by rfl) ag79 (H.cells (i := 3) (by rfl)) (by rfl) (.tmp (by rfl) rfl)), none, 0, none, 0, rfl, (H.forgetAll).pick [5, 6]⟩
     ·have hm := cond_f hb hm
      refine W_skip ?_
      refine W_seq ?_
      refine W_region ?_
      refine RL_pure (by exact wn0 rfl) (by rfl) (by rfl) (x_loadA (j := 0) (vs := [.slice A1 a0.Arena.Slots.length cp2, .slice A5 a0.Kids.length cp6]) ag79 (by rfl) (H.cells (i := 0) (by rfl)) (by rfl) (by rfl)) ?_
      unfold tl38 at hm
      obtain ⟨v, hv, hm⟩ := bind_some hm
      have H : Sep ok w _ [.blk b9 79 [.slice A1 a0.Arena.Slots.length cp2, .slice A5 a0.Kids.length cp6], .blk b11 81 [.int .i64 a1.Slot, .int .i64 a1.Gen], .blk b13 81 [.int .i64 a2.Slot, .int .i64 a2.Gen], .blk b15 79 [.slice none 0 0, .slice none 0 0]] [RE.rd k_Slot A1 cp2 a0.Arena.Slots, RE.rd (Kd.slice k_Handle) A5 cp6 a0.Kids] := (H.takeL 4).pick [0, 1]
      refine RL_cons (O_call (by exact wn0 rfl) (by rfl) (by rfl) (x_callL (by rfl) (args := [.agg #[.slice A1 a0.Arena.Slots.length cp2, .slice A5 a0.Kids.length cp6]]) (by rfl) (cf53 _ _)) (c53x _ K _ a0 A1 cp2 A5 cp6 (H.rd (i := 0) (by rfl)) (H.rd (i := 1) (by rfl)) v hv) ?_)
      rintro e w2 ⟨A2, c2, s2, A3, c3, s3, ls, hls, rfl, H2⟩
      have H : Sep ok w w2 [.blk b9 79 [.slice A1 a0.Arena.Slots.length cp2, .slice A5 a0.Kids.length cp6], .blk b11 81 [.int .i64 a1.Slot, .int .i64 a1.Gen], .blk b13 81 [.int .i64 a2.Slot, .int .i64 a2.Gen], .blk b15 79 [.slice none 0 0, .slice none 0 0], .row (.slice A2 v.Arena.Slots.length c2) 96 k_Slot.sz v.Arena.Slots.length s2, .row (.slice A3 (ls.map Inn.hd).length c3) 87 kHd.sz (ls.map Inn.hd).length s3, rowsOf 81 k_Handle.sz ls] [RE.rd k_Slot A1 cp2 a0.Arena.Slots, RE.rd (Kd.slice k_Handle) A5 cp6 a0.Kids, RE.chunks k_Slot s2 v.Arena.Slots, RE.chunks kHd s3 (ls.map Inn.hd), RE.inns k_Handle ls] := H.call H2
      clear H2
      refine ⟨_, rfl, ?_⟩
      show RL _ _ _ _ _ _ _
      refine RL_cons (O_store (i := 0) (off := 0) (by exact wn0 rfl) (by rfl) (by rfl) H (by rfl) (vs := [.slice A2 v.Arena.Slots.length c2, .slice A3 (ls.map Inn.hd).length c3]) (by rfl) sz79 (by rfl) (by rfl) (by rfl) (fun w3 (H : Sep ok w w3 [.blk b9 79 [.slice A2 v.Arena.Slots.length c2, .slice A3 (ls.map Inn.hd).length c3], .blk b11 81 [.int .i64 a1.Slot, .int .i64 a1.Gen], .blk b13 81 [.int .i64 a2.Slot, .int .i64 a2.Gen], .blk b15 79 [.slice none 0 0, .slice none 0 0], .row (.slice A2 v.Arena.Slots.length c2) 96 k_Slot.sz v.Arena.Slots.length s2, .row (.slice A3 (ls.map Inn.hd).length c3) 87 kHd.sz (ls.map Inn.hd).length s3, rowsOf 81 k_Handle.sz ls] [RE.rd k_Slot A1 cp2 a0.Arena.Slots, RE.rd (Kd.slice k_Handle) A5 cp6 a0.Kids, RE.chunks k_Slot s2 v.Arena.Slots, RE.chunks kHd s3 (ls.map Inn.hd), RE.inns k_Handle ls]) => ?_))
      refine RL_nil ?_
      obtain ⟨el, h0, h1, he, hm⟩ := idx_some hm
      by_cases hrange : 0 ≤ a3 ∧ a3 ≤ (el.length : Int) ∧ (el.length + 1) * 16 ≤ 140737488355328
      rotate_left
      ·rw [if_neg hrange] at hm; cases hm
      rw [if_pos hrange] at hm
      obtain ⟨ha0, ha1, ha2⟩ := hrange
      obtain ⟨r, hr, hrx⟩ : ∃ r, ls[a1.Slot.toNat]? = some r ∧ r.xs = el := by
       rw [← hls, List.getElem?_map] at he
       cases hq : ls[a1.Slot.toNat]? with
       | none => rw [hq] at he; cases he
       | some r => rw [hq] at he; exact ⟨r, rfl, Option.some.inj he⟩
      subst hrx
      have hhd : (ls.map Inn.hd)[a1.Slot.toNat]? = some r.hd := by rw [List.getElem?_map, hr]; rfl
      have hlen : ls.length = v.Kids.length := by rw [← hls, List.length_map]
      have h1' : a1.Slot < ((ls.map Inn.hd).length : Int) := by rw [List.length_map, hlen]; exact h1
      obtain ⟨gi, _, hAi, _, _⟩ := H.rowIdx (i := 5) (j := 3) (by rfl) (by rfl) hhd
      have hrow : (Ent.row (.slice r.A r.xs.length r.c) 81 k_Handle.sz r.xs.length r.cs).ok w3 := rowsOf_ok.1 (H.ents 6 _ (by rfl)) r (List.mem_of_getElem? hr)
      have hxc : r.xs.length ≤ 9223372036854775807 := by
       rcases hrow.2 with ⟨_, h⟩ | ⟨_, _, _, _, _, _, h, hcm, _⟩
       ·omega
       ·simp only [maxLen] at hcm; omega
      refine W_seq ?_
      refine W_draw [.free 0, .take 1, .free 2, .take 3, .free 4, .take 5, .free 6, .take 7, .free 8, .take 9, .free 10, .take 11, .run 12, .run 13, .free 14, .tail 15] (fun wS => Sep ok w wS [.blk b9 79 [.slice A2 v.Arena.Slots.length c2, .slice A3 (ls.map Inn.hd).length c3], .blk b11 81 [.int .i64 a1.Slot, .int .i64 a1.Gen], .blk b13 81 [.int .i64 a2.Slot, .int .i64 a2.Gen], .blk b15 79 [.slice none 0 0, .slice none 0 0], .row (.slice A2 v.Arena.Slots.length c2) 96 k_Slot.sz v.Arena.Slots.length s2, .row (.slice A3 (ls.map Inn.hd).length c3) 87 kHd.sz (ls.map Inn.hd).length s3] [RE.rd k_Slot A1 cp2 a0.Arena.Slots, RE.rd (Kd.slice k_Handle) A5 cp6 a0.Kids, RE.chunks k_Slot s2 v.Arena.Slots, RE.chunks kHd s3 (ls.map Inn.hd)]) [15] [0, 2, 4, 6, 8, 10, 14] mixed0 (by kernel_rfl) (by kernel_rfl) (by kernel_rfl) (by rfl) (by exact (H.drew.takeL 6).takeR 4) ?_
      obtain ⟨w4, hW⟩ : ∃ W : World, W = { w3 with drawn := w3.drawn + 1 } := ⟨_, rfl⟩
      rw [← hW]
      have H : Sep ok w w4 [.blk b9 79 [.slice A2 v.Arena.Slots.length c2, .slice A3 (ls.map Inn.hd).length c3], .blk b11 81 [.int .i64 a1.Slot, .int .i64 a1.Gen], .blk b13 81 [.int .i64 a2.Slot, .int .i64 a2.Gen], .blk b15 79 [.slice none 0 0, .slice none 0 0], .row (.slice A2 v.Arena.Slots.length c2) 96 k_Slot.sz v.Arena.Slots.length s2, .row (.slice A3 (ls.map Inn.hd).length c3) 87 kHd.sz (ls.map Inn.hd).length s3, rowsOf 81 k_Handle.sz ls] [RE.rd k_Slot A1 cp2 a0.Arena.Slots, RE.rd (Kd.slice k_Handle) A5 cp6 a0.Kids, RE.chunks k_Slot s2 v.Arena.Slots, RE.chunks kHd s3 (ls.map Inn.hd), RE.inns k_Handle ls] := by rw [hW]; exact H.drew
      clear hW
      refine PR_free (by rfl) (by rfl) (by rfl) (by exact wn0 rfl) (fun wS => (x_fieldAddr fo79_1 (by rfl))) ?_
      refine PR_take (by rfl) (by rfl) (by rfl) (by exact wn0 rfl) (fun wS (H : Sep ok w wS [.blk b9 79 [.slice A2 v.Arena.Slots.length c2, .slice A3 (ls.map Inn.hd).length c3], .blk b11 81 [.int .i64 a1.Slot, .int .i64 a1.Gen], .blk b13 81 [.int .i64 a2.Slot, .int .i64 a2.Gen], .blk b15 79 [.slice none 0 0, .slice none 0 0], .row (.slice A2 v.Arena.Slots.length c2) 96 k_Slot.sz v.Arena.Slots.length s2, .row (.slice A3 (ls.map Inn.hd).length c3) 87 kHd.sz (ls.map Inn.hd).length s3] [RE.rd k_Slot A1 cp2 a0.Arena.Slots, RE.rd (Kd.slice k_Handle) A5 cp6 a0.Kids, RE.chunks k_Slot s2 v.Arena.Slots, RE.chunks kHd s3 (ls.map Inn.hd)]) => (x_load (j := 1) (v := .slice A3 (ls.map Inn.hd).length c3) sc77 (by rfl) (H.cells (i := 0) (by rfl)) (by rfl))) ?_
      refine PR_free (by rfl) (by rfl) (by rfl) (by exact wn0 rfl) (fun wS => (x_fieldAddr fo81_0 (by rfl))) ?_
      refine PR_take (by rfl) (by rfl) (by rfl) (by exact wn0 rfl) (fun wS (H : Sep ok w wS [.blk b9 79 [.slice A2 v.Arena.Slots.length c2, .slice A3 (ls.map Inn.hd).length c3], .blk b11 81 [.int .i64 a1.Slot, .int .i64 a1.Gen], .blk b13 81 [.int .i64 a2.Slot, .int .i64 a2.Gen], .blk b15 79 [.slice none 0 0, .slice none 0 0], .row (.slice A2 v.Arena.Slots.length c2) 96 k_Slot.sz v.Arena.Slots.length s2, .row (.slice A3 (ls.map Inn.hd).length c3) 87 kHd.sz (ls.map Inn.hd).length s3] [RE.rd k_Slot A1 cp2 a0.Arena.Slots, RE.rd (Kd.slice k_Handle) A5 cp6 a0.Kids, RE.chunks k_Slot s2 v.Arena.Slots, RE.chunks kHd s3 (ls.map Inn.hd)]) => (x_load (j := 0) (v := .int .i64 a1.Slot) sc3 (by rfl) (H.cells (i := 1) (by rfl)) (by rfl))) ?_
      refine PR_free (by rfl) (by rfl) (by rfl) (by exact wn0 rfl) (fun wS => (x_fieldAddr fo79_1 (by rfl))) ?_
      refine PR_take (by rfl) (by rfl) (by rfl) (by exact wn0 rfl) (fun wS (H : Sep ok w wS [.blk b9 79 [.slice A2 v.Arena.Slots.length c2, .slice A3 (ls.map Inn.hd).length c3], .blk b11 81 [.int .i64 a1.Slot, .int .i64 a1.Gen], .blk b13 81 [.int .i64 a2.Slot, .int .i64 a2.Gen], .blk b15 79 [.slice none 0 0, .slice none 0 0], .row (.slice A2 v.Arena.Slots.length c2) 96 k_Slot.sz v.Arena.Slots.length s2, .row (.slice A3 (ls.map Inn.hd).length c3) 87 kHd.sz (ls.map Inn.hd).length s3] [RE.rd k_Slot A1 cp2 a0.Arena.Slots, RE.rd (Kd.slice k_Handle) A5 cp6 a0.Kids, RE.chunks k_Slot s2 v.Arena.Slots, RE.chunks kHd s3 (ls.map Inn.hd)]) => (x_load (j := 1) (v := .slice A3 (ls.map Inn.hd).length c3) sc77 (by rfl) (H.cells (i := 0) (by rfl)) (by rfl))) ?_
      refine PR_free (by rfl) (by rfl) (by rfl) (by exact wn0 rfl) (fun wS => (x_fieldAddr fo81_0 (by rfl))) ?_
      refine PR_take (by rfl) (by rfl) (by rfl) (by exact wn0 rfl) (fun wS (H : Sep ok w wS [.blk b9 79 [.slice A2 v.Arena.Slots.length c2, .slice A3 (ls.map Inn.hd).length c3], .blk b11 81 [.int .i64 a1.Slot, .int .i64 a1.Gen], .blk b13 81 [.int .i64 a2.Slot, .int .i64 a2.Gen], .blk b15 79 [.slice none 0 0, .slice none 0 0], .row (.slice A2 v.Arena.Slots.length c2) 96 k_Slot.sz v.Arena.Slots.length s2, .row (.slice A3 (ls.map Inn.hd).length c3) 87 kHd.sz (ls.map Inn.hd).length s3] [RE.rd k_Slot A1 cp2 a0.Arena.Slots, RE.rd (Kd.slice k_Handle) A5 cp6 a0.Kids, RE.chunks k_Slot s2 v.Arena.Slots, RE.chunks kHd s3 (ls.map Inn.hd)]) => (x_load (j := 0) (v := .int .i64 a1.Slot) sc3 (by rfl) (H.cells (i := 1) (by rfl)) (by rfl))) ?_
      refine PR_free (by rfl) (by rfl) (by rfl) (by exact wn0 rfl) (fun wS => (x_indexAddr sl77 sz87 (by rfl) (by rfl) hAi h0 h1')) ?_
      refine PR_take (by rfl) (by rfl) (by rfl) (by exact wn0 rfl) (fun wS (H : Sep ok w wS [.blk b9 79 [.slice A2 v.Arena.Slots.length c2, .slice A3 (ls.map Inn.hd).length c3], .blk b11 81 [.int .i64 a1.Slot, .int .i64 a1.Gen], .blk b13 81 [.int .i64 a2.Slot, .int .i64 a2.Gen], .blk b15 79 [.slice none 0 0, .slice none 0 0], .row (.slice A2 v.Arena.Slots.length c2) 96 k_Slot.sz v.Arena.Slots.length s2, .row (.slice A3 (ls.map Inn.hd).length c3) 87 kHd.sz (ls.map Inn.hd).length s3] [RE.rd k_Slot A1 cp2 a0.Arena.Slots, RE.rd (Kd.slice k_Handle) A5 cp6 a0.Kids, RE.chunks k_Slot s2 v.Arena.Slots, RE.chunks kHd s3 (ls.map Inn.hd)]) => (x_load (j := 0) (v := .slice r.A r.xs.length r.c) sc87 (by rfl) (H.rowFlatAt (n := 1) (i := 5) (j := 3) (by rfl) (by rfl) hAi hhd) (by rfl))) ?_
      refine PR_free (by rfl) (by rfl) (by rfl) (by exact wn0 rfl) (fun wS => (x_move (v := .int .i64 a3) (by rfl))) ?_
      refine PR_take (by rfl) (by rfl) (by rfl) (by exact wn0 rfl) (fun wS (H : Sep ok w wS [.blk b9 79 [.slice A2 v.Arena.Slots.length c2, .slice A3 (ls.map Inn.hd).length c3], .blk b11 81 [.int .i64 a1.Slot, .int .i64 a1.Gen], .blk b13 81 [.int .i64 a2.Slot, .int .i64 a2.Gen], .blk b15 79 [.slice none 0 0, .slice none 0 0], .row (.slice A2 v.Arena.Slots.length c2) 96 k_Slot.sz v.Arena.Slots.length s2, .row (.slice A3 (ls.map Inn.hd).length c3) 87 kHd.sz (ls.map Inn.hd).length s3] [RE.rd k_Slot A1 cp2 a0.Arena.Slots, RE.rd (Kd.slice k_Handle) A5 cp6 a0.Kids, RE.chunks k_Slot s2 v.Arena.Slots, RE.chunks kHd s3 (ls.map Inn.hd)]) => (x_loadA (j := 0) (vs := [.int .i64 a2.Slot, .int .i64 a2.Gen]) ag81 (by rfl) (H.cells (i := 2) (by rfl)) (by rfl) (by rfl))) ?_
      refine PR_run (by rfl) (O_buildSlice (vs := [(0, .agg #[.int .i64 a2.Slot, .int .i64 a2.Gen])]) (cs := [.int .i64 a2.Slot, .int .i64 a2.Gen]) (by exact wn0 rfl) (by rfl) sl87 sz81 ze81 (by rfl) (by rfl) (by rfl) (by kernel_rfl) H (fun w8 bn (H : Sep ok w w8 [.blk b9 79 [.slice A2 v.Arena.Slots.length c2, .slice A3 (ls.map Inn.hd).length c3], .blk b11 81 [.int .i64 a1.Slot, .int .i64 a1.Gen], .blk b13 81 [.int .i64 a2.Slot, .int .i64 a2.Gen], .blk b15 79 [.slice none 0 0, .slice none 0 0], .row (.slice A2 v.Arena.Slots.length c2) 96 k_Slot.sz v.Arena.Slots.length s2, .row (.slice A3 (ls.map Inn.hd).length c3) 87 kHd.sz (ls.map Inn.hd).length s3, rowsOf 81 k_Handle.sz ls, .blk bn 81 [.int .i64 a2.Slot, .int .i64 a2.Gen]] [RE.rd k_Slot A1 cp2 a0.Arena.Slots, RE.rd (Kd.slice k_Handle) A5 cp6 a0.Kids, RE.chunks k_Slot s2 v.Arena.Slots, RE.chunks kHd s3 (ls.map Inn.hd), RE.inns k_Handle ls]) => ⟨(H.takeL 6).takeR 4, ?_⟩))
      have H : Sep ok w w8 [.blk b9 79 [.slice A2 v.Arena.Slots.length c2, .slice A3 (ls.map Inn.hd).length c3], .blk b11 81 [.int .i64 a1.Slot, .int .i64 a1.Gen], .blk b13 81 [.int .i64 a2.Slot, .int .i64 a2.Gen], .blk b15 79 [.slice none 0 0, .slice none 0 0], .row (.slice A2 v.Arena.Slots.length c2) 96 k_Slot.sz v.Arena.Slots.length s2, .row (.slice A3 (ls.map Inn.hd).length c3) 87 kHd.sz (ls.map Inn.hd).length s3, rowsOf 81 k_Handle.sz (ls.set a1.Slot.toNat Inn.nil), .blk bn 81 [.int .i64 a2.Slot, .int .i64 a2.Gen], .row (.slice r.A r.xs.length r.c) 81 k_Handle.sz r.xs.length r.cs] [RE.rd k_Slot A1 cp2 a0.Arena.Slots, RE.rd (Kd.slice k_Handle) A5 cp6 a0.Kids, RE.chunks k_Slot s2 v.Arena.Slots, RE.chunks kHd s3 (ls.map Inn.hd), RE.inns k_Handle ls] := H.rowsPull (i := 6) (j := a1.Slot.toNat) (by rfl) hr
      have hrc : Chunks k_Handle w8 (okS ok w [.blk b9 79 [.slice A2 v.Arena.Slots.length c2, .slice A3 (ls.map Inn.hd).length c3], .blk b11 81 [.int .i64 a1.Slot, .int .i64 a1.Gen], .blk b13 81 [.int .i64 a2.Slot, .int .i64 a2.Gen], .blk b15 79 [.slice none 0 0, .slice none 0 0], .row (.slice A2 v.Arena.Slots.length c2) 96 k_Slot.sz v.Arena.Slots.length s2, .row (.slice A3 (ls.map Inn.hd).length c3) 87 kHd.sz (ls.map Inn.hd).length s3, rowsOf 81 k_Handle.sz (ls.set a1.Slot.toNat Inn.nil), .blk bn 81 [.int .i64 a2.Slot, .int .i64 a2.Gen], .row (.slice r.A r.xs.length r.c) 81 k_Handle.sz r.xs.length r.cs]) r.cs r.xs := (show (RE.inns k_Handle ls).rel w8 _ from H.rds 4 _ (by rfl)) r (List.mem_of_getElem? hr)
      have HL := H.lend (i := 8) (by rfl)
      have HL := HL.also (re := RE.chunks k_Handle r.cs r.xs) (hrc.flat (fun _ _ _ _ _ _ h => h))
      have HL := HL.also (re := RE.heap bn (obH a2)) ⟨(show (Ent.blk bn 81 [.int .i64 a2.Slot, .int .i64 a2.Gen]).ok w8 from H.ents 7 _ (by rfl)), fun hb' => other_blk H.nodup (i := 7) (j := 8) (by rfl) (by rfl) (by decide) (b := bn) (by simp [Ent.blks]) (by rwa [blks_one] at hb'), .inl trivial⟩
      obtain ⟨l2, hl2⟩ : ∃ l2, r.xs.take a3.toNat ++ a2 :: r.xs.drop a3.toNat = l2 := ⟨_, rfl⟩
      rw [hl2] at hm
      have hat : ((a3.toNat : Nat) : Int) = a3 := Int.toNat_of_nonneg ha0
      have hcall := c81 _ w8 w8 r.xs a3.toNat a2 r.A r.c r.cs bn HL (by omega) ha2 l2 hl2
      rw [hat] at hcall
      refine PR_run (by rfl) (O_call (by exact wn0 rfl) (by rfl) (by rfl) (x_callL (by rfl) (args := [.slice r.A r.xs.length r.c, .int .i64 a3, .slice (some ⟨bn, 0, none⟩) 1 1]) (by rfl) (cf81 _ _)) hcall ?_)
      rintro e w5 ⟨A7, c7, cs7, rfl, HB⟩
      have hcB : Chunks k_Handle w5 _ cs7 l2 := HB.rds 0 _ (by rfl)
      have H : Sep ok w w5 [.blk b9 79 [.slice A2 v.Arena.Slots.length c2, .slice A3 (ls.map Inn.hd).length c3], .blk b11 81 [.int .i64 a1.Slot, .int .i64 a1.Gen], .blk b13 81 [.int .i64 a2.Slot, .int .i64 a2.Gen], .blk b15 79 [.slice none 0 0, .slice none 0 0], .row (.slice A2 v.Arena.Slots.length c2) 96 k_Slot.sz v.Arena.Slots.length s2, .row (.slice A3 (ls.map Inn.hd).length c3) 87 kHd.sz (ls.map Inn.hd).length s3, rowsOf 81 k_Handle.sz (ls.set a1.Slot.toNat Inn.nil), .blk bn 81 [.int .i64 a2.Slot, .int .i64 a2.Gen], .row (.slice A7 l2.length c7) 81 k_Handle.sz l2.length cs7] [RE.rd k_Slot A1 cp2 a0.Arena.Slots, RE.rd (Kd.slice k_Handle) A5 cp6 a0.Kids, RE.chunks k_Slot s2 v.Arena.Slots, RE.chunks kHd s3 (ls.map Inn.hd), RE.inns k_Handle ls, RE.chunks k_Handle cs7 l2] := (H.back (i := 8) (by rfl) HB).also (re := RE.chunks k_Handle cs7 l2) (hcB.flat (fun _ _ _ _ _ _ h => h))
      clear HB HL
      refine ⟨_, rfl, (H.takeL 6).takeR 4, ?_⟩
      show PR _ _ _ _ _ _ _ _
      refine PR_free (by rfl) (by rfl) (by rfl) (by exact wn0 rfl) (fun wS => (x_indexAddr sl77 sz87 (by rfl) (by rfl) hAi h0 h1')) ?_
      obtain ⟨ls3, hls3⟩ : ∃ ls3 : List (Inn S_Handle), ls.set a1.Slot.toNat ⟨A7, c7, cs7, l2⟩ = ls3 := ⟨_, rfl⟩
      have hset : (ls.map Inn.hd).set a1.Slot.toNat (A7, l2.length, c7) = ls3.map Inn.hd := by rw [← hls3, List.map_set]; rfl
      have hlen3 : (ls3.map Inn.hd).length = (ls.map Inn.hd).length := by rw [← hset, List.length_set]
      refine PR_tail (by rfl) (O_storeRow (D := kHd) (i := 5) (j := 3) (off := 0) (m := a1.Slot) (a := r.hd) (b := (A7, l2.length, c7)) (vs := [.slice A7 l2.length c7]) (by exact wn0 rfl) H (by rfl) (by rfl) hAi (by rfl) (by rfl) hhd (by rfl) sz87 (by rfl) (by rfl) (by intro ce hce; obtain rfl := hce; rfl) hset (fun w6 s6 (H : Sep ok w w6 [.blk b9 79 [.slice A2 v.Arena.Slots.length c2, .slice A3 (ls.map Inn.hd).length c3], .blk b11 81 [.int .i64 a1.Slot, .int .i64 a1.Gen], .blk b13 81 [.int .i64 a2.Slot, .int .i64 a2.Gen], .blk b15 79 [.slice none 0 0, .slice none 0 0], .row (.slice A2 v.Arena.Slots.length c2) 96 k_Slot.sz v.Arena.Slots.length s2, .row (.slice A3 (ls3.map Inn.hd).length c3) 87 kHd.sz (ls3.map Inn.hd).length s6, rowsOf 81 k_Handle.sz (ls.set a1.Slot.toNat Inn.nil), .blk bn 81 [.int .i64 a2.Slot, .int .i64 a2.Gen], .row (.slice A7 l2.length c7) 81 k_Handle.sz l2.length cs7] [RE.rd k_Slot A1 cp2 a0.Arena.Slots, RE.rd (Kd.slice k_Handle) A5 cp6 a0.Kids, RE.chunks k_Slot s2 v.Arena.Slots, RE.chunks kHd s6 (ls3.map Inn.hd), RE.inns k_Handle ls, RE.chunks k_Handle cs7 l2]) => ?_))
      refine PR_nil ?_
      have hin := RE.inns_set (r := (⟨A7, c7, cs7, l2⟩ : Inn S_Handle)) (j := a1.Slot.toNat) (show (RE.inns k_Handle ls).rel w6 _ from H.rds 4 _ (by rfl)) (show (RE.chunks k_Handle cs7 l2).rel w6 _ from H.rds 5 _ (by rfl))
      rw [hls3] at hin
      have H := (H.setRe 4 hin).rowsPut (i := 6) (j := a1.Slot.toNat) (k := 8) (r0 := Inn.nil) (r := ⟨A7, c7, cs7, l2⟩) (by rfl) (by rw [List.getElem?_set_self (by omega)]) (by rfl) (by decide)
      rw [List.set_set, hls3] at H
      have H : Sep ok w w6 [.blk b9 79 [.slice A2 v.Arena.Slots.length c2, .slice A3 (ls.map Inn.hd).length c3], .blk b11 81 [.int .i64 a1.Slot, .int .i64 a1.Gen], .blk b13 81 [.int .i64 a2.Slot, .int .i64 a2.Gen], .blk b15 79 [.slice none 0 0, .slice none 0 0], .row (.slice A2 v.Arena.Slots.length c2) 96 k_Slot.sz v.Arena.Slots.length s2, .row (.slice A3 (ls3.map Inn.hd).length c3) 87 kHd.sz (ls3.map Inn.hd).length s6, rowsOf 81 k_Handle.sz ls3] [RE.rd k_Slot A1 cp2 a0.Arena.Slots, RE.rd (Kd.slice k_Handle) A5 cp6 a0.Kids, RE.chunks k_Slot s2 v.Arena.Slots, RE.chunks kHd s6 (ls3.map Inn.hd), RE.inns k_Handle ls3] := (H.takeL 7).takeR 5
      have hk3 : ls3.map (·.xs) = v.Kids.set a1.Slot.toNat l2 := by rw [← hls3, List.map_set, hls]
      have hlk : (ls3.map Inn.hd).length = (ls.map Inn.hd).length := by
       have h1 := congrArg List.length hk3
       simp only [List.length_map, List.length_set] at h1 ⊢
       omega
      refine W_seq ?_
      refine W_region ?_
      refine RL_pure (by exact wn0 rfl) (by rfl) (by rfl) (x_loadA (j := 0) (vs := [.slice A2 v.Arena.Slots.length c2, .slice A3 (ls.map Inn.hd).length c3]) ag79 (by rfl) (H.cells (i := 0) (by rfl)) (by rfl) (by rfl)) ?_
      refine RL_cons (O_store (i := 3) (off := 0) (by exact wn0 rfl) (by rfl) (by rfl) H (by rfl) (vs := [.slice A2 v.Arena.Slots.length c2, .slice A3 (ls.map Inn.hd).length c3]) (by rfl) sz79 (by rfl) (by rfl) (by rfl) (fun w7 (H : Sep ok w w7 [.blk b9 79 [.slice A2 v.Arena.Slots.length c2, .slice A3 (ls.map Inn.hd).length c3], .blk b11 81 [.int .i64 a1.Slot, .int .i64 a1.Gen], .blk b13 81 [.int .i64 a2.Slot, .int .i64 a2.Gen], .blk b15 79 [.slice A2 v.Arena.Slots.length c2, .slice A3 (ls.map Inn.hd).length c3], .row (.slice A2 v.Arena.Slots.length c2) 96 k_Slot.sz v.Arena.Slots.length s2, .row (.slice A3 (ls3.map Inn.hd).length c3) 87 kHd.sz (ls3.map Inn.hd).length s6, rowsOf 81 k_Handle.sz ls3] [RE.rd k_Slot A1 cp2 a0.Arena.Slots, RE.rd (Kd.slice k_Handle) A5 cp6 a0.Kids, RE.chunks k_Slot s2 v.Arena.Slots, RE.chunks kHd s6 (ls3.map Inn.hd), RE.inns k_Handle ls3]) => ?_))
      refine RL_pure (by exact wn0 rfl) (by rfl) (by rfl) (x_assign (v := .int .i64 0) (by rfl)) ?_
      refine RL_nil ?_
      refine W_ret ?_
      have HF : Sep ok w w7 [.blk b9 79 [.slice A2 v.Arena.Slots.length c2, .slice A3 (ls.map Inn.hd).length c3], .blk b11 81 [.int .i64 a1.Slot, .int .i64 a1.Gen], .blk b13 81 [.int .i64 a2.Slot, .int .i64 a2.Gen], .blk b15 79 [.slice A2 v.Arena.Slots.length c2, .slice A3 (ls.map Inn.hd).length c3], .row (.slice A2 v.Arena.Slots.length c2) 96 k_Slot.sz v.Arena.Slots.length s2, .row (.slice A3 (ls3.map Inn.hd).length c3) 87 kHd.sz (ls3.map Inn.hd).length s6, rowsOf 81 k_Handle.sz ls3] [RE.rd k_Slot A1 cp2 a0.Arena.Slots, RE.rd (Kd.slice k_Handle) A5 cp6 a0.Kids, RE.chunks k_Slot s2 v.Arena.Slots, RE.chunks kHd s6 (ls3.map Inn.hd), RE.inns k_Handle ls3] := H
      have H := H.frozenF hno (fun _ _ _ _ _ _ h => h) (i := 4) (j := 2) (by rfl) (by rfl)
      have H := H.rowsFreeze hno (fun _ _ _ _ _ _ h => h) (i := 6) (o := 5) (j := 3) (q := 4) (l := ls3) (by rfl) (by rw [← (List.length_map Inn.hd : (List.map Inn.hd ls3).length = _)]; rfl) (by rfl) (by rfl) (by decide)
      rw [hk3] at H
      obtain rfl := Option.some.inj hm
      have hkl : (ls.map Inn.hd).length = (v.Kids.set a1.Slot.toNat l2).length := by rw [← hk3, ← hlk, List.length_map, List.length_map]
      exact ⟨[.agg #[.slice A2 v.Arena.Slots.length c2, .slice A3 (ls.map Inn.hd).length c3], .int .i64 0], (.cellA (by rfl) ag79 (HF.cells (i := 3) (by rfl)) (by rfl) (.tmp (by rfl) rfl)), A2, c2, A3, c3, by rw [hkl] <;> rfl, (H.forgetAll).pick [2, 5]⟩

theorem c38 (ok : Okp) (K : Nat) (w : World) (a0 : S_Graph) (A1 : Option Addr) (cp2 : Nat) (A5 : Option Addr) (cp6 : Nat) (a1 : S_Handle) (a2 : S_Handle) (a3 : Int) (hR3 : Rd k_Slot w ok A1 cp2 a0.Arena.Slots) (hR7 : Rd (Kd.slice k_Handle) w ok A5 cp6 a0.Kids) (res : S_Graph × Int) (hm : m38 K a0 a1 a2 a3 = some res) (hno : ∀ k, ¬ ok.wr k := by intro k hk; exact hk) :
  Calls Try.prog 38 #[.agg #[.slice A1 a0.Arena.Slots.length cp2, .slice A5 a0.Kids.length cp6], .agg #[.int .i64 a1.Slot, .int .i64 a1.Gen], .agg #[.int .i64 a2.Slot, .int .i64 a2.Gen], .int .i64 a3] w (fun e w' => ∃ (A0_ : Option Addr) (c0_ : Nat), ∃ (A1_ : Option Addr) (c1_ : Nat), e = .returned (tup [.agg #[.slice A0_ res.1.Arena.Slots.length c0_, .slice A1_ res.1.Kids.length c1_], .int .i64 res.2]) ∧ Sep ok w w' [] [RE.rd k_Slot A0_ c0_ res.1.Arena.Slots, RE.rd (Kd.slice k_Handle) A1_ c1_ res.1.Kids]) :=
 (c38n ok hno K w a0 A1 cp2 A5 cp6 a1 a2 a3 hR3 hR7 res hm).mono fun e w' ⟨A0_, c0_, A1_, c1_, he, H⟩ => ⟨A0_, c0_, A1_, c1_, he, ((H.alsoRd (i := 0) (by rfl)).alsoRd (i := 1) (by rfl)).pick [2, 3]⟩
end Go.Proofs.YtobkigllalbkiaaV.M

/- A plain Lean function that answers as the Go function does (none: not told), and the proof that a call answers so. Written by program. -/
set_option linter.unusedVariables false
namespace Go.Proofs.YtobkigllalbkiaaV.M
open Go.RowKit Go.Proofs.YtobkigllalbkiaaV
/-- (diorama/arena.most).free -/
def m125 (K : Nat) (a0 : Int) (a1 : S_Slot) : Option (Bool) :=
 ((bif (!a1.Live) then some (decide (a1.Gen < a0)) else some false).bind fun b3 => some b3)
set_option maxRecDepth 100000 in
set_option maxHeartbeats 4000000 in
theorem c125 (ok : Okp) (K : Nat) (w : World) (a0 : Int) (a1 : S_Slot)  (res : Bool) (hm : m125 K a0 a1 = some res) :
  Calls Try.prog 125 #[.int .i64 a0, .agg #[.int .i64 a1.Gen, .bool a1.Live]] w (fun e w' => e = .returned (tup [.bool res]) ∧ Sep ok w w' [] []) := by
 refine calls_W (args := [.int .i64 a0, .agg #[.int .i64 a1.Gen, .bool a1.Live]]) Try.func125 rfl Try.ntmps125 Try.results125 rfl fun r hr => ?_
 obtain ⟨r1, rfl⟩ := regen (r := r) [(0, .int .i64 a0), (1, .agg #[.int .i64 a1.Gen, .bool a1.Live])] ⟨hr 0 _ rfl, hr 1 _ rfl, trivial⟩
 have H : Sep ok w w [] [] := Sep.start ok w
 unfold m125 at hm
 refine W_seq ?_
 refine W_region ?_
 refine RL_cons (O_box (by exact wn0 rfl) (by rfl) (by rfl) (by rfl) H (fun w2 b1 (H : Sep ok w w2 [.blk b1 96 [.int .i64 a1.Gen, .bool a1.Live]] []) => ?_))
 refine RL_pure (by exact wn0 rfl) (by rfl) (by rfl) (x_assign (v := .bool false) (by rfl)) ?_
 refine RL_nil ?_
 refine W_seq ?_
 refine W_region ?_
 refine RL_pure (by exact wn0 rfl) (by rfl) (by rfl) (x_fieldAddr fo96_1 (by rfl)) ?_
 refine RL_pure (by exact wn0 rfl) (by rfl) (by rfl) (x_load (j := 1) (v := .bool a1.Live) sc4 (by rfl) (H.cells (i := 0) (by rfl)) (by rfl)) ?_
 refine RL_pure (by exact wn0 rfl) (by rfl) (by rfl) (x_not (by rfl)) ?_
 refine RL_pure (by exact wn0 rfl) (by rfl) (by rfl) (x_move (v := .bool (!a1.Live)) (by rfl)) ?_
 obtain ⟨b3, hmS, hm⟩ := bind_some hm
 refine RL_cut 5 (fun r' w' => Agr [(13, .bool b3)] r' ∧ Sep ok w w' [.blk b1 96 [.int .i64 a1.Gen, .bool a1.Live]] []) ?_ ?_
 ·cases hbS : (!a1.Live)
  ·have hm := cond_f hbS hmS
   refine RL_cons (OpR_off (by exact wn2 rfl rfl rfl rfl) (by rfl) (by rfl) ?_)
   refine RL_cons (OpR_off (by exact wn2 rfl rfl rfl rfl) (by rfl) (by rfl) ?_)
   refine RL_cons (OpR_off (by exact wn2 rfl rfl rfl rfl) (by rfl) (by rfl) ?_)
   refine RL_cons (OpR_off (by exact wn2 rfl rfl rfl rfl) (by rfl) (by rfl) ?_)
   refine RL_pure (by exact wn0 rfl) (by rfl) (by rfl) (x_pick_f (v := .bool false) (by rfl) (by rfl)) ?_
   refine RL_nil ?_
   exact ⟨⟨congrArg Value.bool (Option.some.inj hm), trivial⟩, H⟩
  ·have hm := cond_t hbS hmS
   refine RL_pure (by exact wn1 rfl rfl rfl rfl) (by rfl) (by rfl) (x_fieldAddr fo96_0 (by rfl)) ?_
   refine RL_pure (by exact wn1 rfl rfl rfl rfl) (by rfl) (by rfl) (x_load (j := 0) (v := .int .i64 a1.Gen) sc3 (by rfl) (H.cells (i := 0) (by rfl)) (by rfl)) ?_
   refine RL_pure (by exact wn1 rfl rfl rfl rfl) (by rfl) (by rfl) (x_move (v := .int .i64 a0) (by rfl)) ?_
   refine RL_pure (by exact wn1 rfl rfl rfl rfl) (by rfl) (by rfl) (x_lss (by rfl) (by rfl)) ?_
   refine RL_pure (by exact wn0 rfl) (by rfl) (by rfl) (x_pick_t (v := .bool (decide (a1.Gen < a0))) (by rfl) (by rfl)) ?_
   refine RL_nil ?_
   exact ⟨⟨congrArg Value.bool (Option.some.inj hm), trivial⟩, H⟩
 ·rintro r' w' ⟨hA, H⟩
  obtain ⟨r4, rfl⟩ := regen _ hA; clear hA
  obtain ⟨w5, rfl⟩ : ∃ W : World, W = w' := ⟨_, rfl⟩
  show RL _ _ _ _ _ _ _
  refine RL_pure (by exact wn0 rfl) (by rfl) (by rfl) (x_assign (v := .bool b3) (by rfl)) ?_
  refine RL_nil ?_
  refine W_ret ?_
  obtain rfl := Option.some.inj hm
  exact ⟨[.bool b3], (.tmp (by rfl) rfl), rfl, H.none_⟩
end Go.Proofs.YtobkigllalbkiaaV.M

/- A plain Lean function that answers as the Go function does (none: not told), and the proof that a call answers so. Written by program. -/
set_option linter.unusedVariables false
namespace Go.Proofs.YtobkigllalbkiaaV.M
open Go.RowKit Go.Proofs.YtobkigllalbkiaaV
def m94_j1 (K : Nat)  (l_row23_1 : (List S_Slot)) (y7_1 : Int) : Option (S_Arena × S_Handle × Int) :=
 (idx l_row23_1 y7_1 fun el66 => some ((⟨l_row23_1⟩ : S_Arena), (⟨y7_1, el66.Gen⟩ : S_Handle), 0))
/-- diorama/arena.Make -/
def m94 (K : Nat) (a0 : S_Arena) : Option (S_Arena × S_Handle × Int) :=
 ((m88 K a0).bind fun v12 => (bif (v12 != 0) then some ((⟨[]⟩ : S_Arena), (⟨0, 0⟩ : S_Handle), v12) else ((m102 K a0).bind fun v18 => ((anyS (fun (_ : Unit) (x : S_Slot) => (m125 K 1073741824 x).map fun b => (b, ())) () 0 v18.Slots).bind fun v27 => (bif (decide (0 ≤ v27.1)) then (idx v18.Slots v27.1 fun el30 => (ck (el30.Gen + 1) fun x37 => (idx v18.Slots v27.1 fun el38 => (lete (v18.Slots.set ((v27.1).toNat) (⟨x37, true⟩ : S_Slot)) fun l47 => (m94_j1 K l47 v27.1))))) else (bif ((v18.Slots.length : Int) == 128) then some ((⟨[]⟩ : S_Arena), (⟨0, 0⟩ : S_Handle), 9) else (apd 16 v18.Slots (⟨1, true⟩ : S_Slot) fun l59 => (m94_j1 K l59 (v18.Slots.length : Int)))))))))
set_option maxRecDepth 100000 in
set_option maxHeartbeats 4000000 in
theorem c94 (ok : Okp) (K : Nat) (w : World) (a0 : S_Arena) (A1 : Option Addr) (cp2 : Nat) (hR3 : Rd k_Slot w ok A1 cp2 a0.Slots) (res : S_Arena × S_Handle × Int) (hm : m94 K a0 = some res) :
  Calls Try.prog 94 #[.agg #[.slice A1 a0.Slots.length cp2]] w (fun e w' => ∃ (A0_ : Option Addr) (c0_ : Nat), e = .returned (tup [.agg #[.slice A0_ res.1.Slots.length c0_], .agg #[.int .i64 res.2.1.Slot, .int .i64 res.2.1.Gen], .int .i64 res.2.2]) ∧ Sep ok w w' [] [RE.rd k_Slot A0_ c0_ res.1.Slots]) := by
 refine calls_W (args := [.agg #[.slice A1 a0.Slots.length cp2]]) Try.func94 rfl Try.ntmps94 Try.results94 rfl fun r hr => ?_
 obtain ⟨r1, rfl⟩ := regen (r := r) [(0, .agg #[.slice A1 a0.Slots.length cp2])] ⟨hr 0 _ rfl, trivial⟩
 have H : Sep ok w w [] [RE.rd k_Slot A1 cp2 a0.Slots] := Sep.arg (Sep.start ok w) (re := RE.rd k_Slot A1 cp2 a0.Slots) rfl rfl hR3
 unfold m94 at hm
 refine W_seq ?_
 refine W_region ?_
 refine RL_cons (O_box (by exact wn0 rfl) (by rfl) (by rfl) (by rfl) H (fun w6 b5 (H : Sep ok w w6 [.blk b5 76 [.slice A1 a0.Slots.length cp2]] [RE.rd k_Slot A1 cp2 a0.Slots]) => ?_))
 refine RL_cons (O_alloc (by exact wn0 rfl) (by rfl) ze76 (by rfl) H (fun w8 b7 (H : Sep ok w w8 [.blk b5 76 [.slice A1 a0.Slots.length cp2], .blk b7 76 [.slice none 0 0]] [RE.rd k_Slot A1 cp2 a0.Slots]) => ?_))
 refine RL_cons (O_alloc (by exact wn0 rfl) (by rfl) ze81 (by rfl) H (fun w10 b9 (H : Sep ok w w10 [.blk b5 76 [.slice A1 a0.Slots.length cp2], .blk b7 76 [.slice none 0 0], .blk b9 81 [.int .i64 0, .int .i64 0]] [RE.rd k_Slot A1 cp2 a0.Slots]) => ?_))
 refine RL_pure (by exact wn0 rfl) (by rfl) (by rfl) (x_assign (v := .int .i64 0) (by rfl)) ?_
 refine RL_nil ?_
 refine W_seq ?_
 refine W_seq ?_
 refine W_region ?_
 refine RL_pure (by exact wn0 rfl) (by rfl) (by rfl) (x_loadA (j := 0) (vs := [.slice A1 a0.Slots.length cp2]) ag76 (by rfl) (H.cells (i := 0) (by rfl)) (by rfl) (by rfl)) ?_
 obtain ⟨v12, hv11, hm⟩ := bind_some hm
 refine RL_cons (O_call (by exact wn0 rfl) (by rfl) (by rfl) (x_callL (by rfl) (args := [.agg #[.slice A1 a0.Slots.length cp2]]) (by rfl) (cf88 _ _)) (c88 okT K w10 a0 A1 cp2 (H.rd (i := 0) (by rfl)).any v12 hv11) ?_)
 rintro e w13 ⟨rfl, H2⟩
 have H : Sep ok w w13 [.blk b5 76 [.slice A1 a0.Slots.length cp2], .blk b7 76 [.slice none 0 0], .blk b9 81 [.int .i64 0, .int .i64 0]] [RE.rd k_Slot A1 cp2 a0.Slots] := H.below H2.base
 clear H2
 refine ⟨_, rfl, ?_⟩
 show RL _ _ _ _ _ _ _
 refine RL_pure (by exact wn0 rfl) (by rfl) (by rfl) (x_assign (v := .int .i64 v12) (by rfl)) ?_
 refine RL_nil ?_
 refine W_seq ?_
 refine W_region ?_
 refine RL_pure (by exact wn0 rfl) (by rfl) (by rfl) (x_move (v := .int .i64 v12) (by rfl)) ?_
 refine RL_pure (by exact wn0 rfl) (by rfl) (by rfl) (x_neq (by rfl) (by rfl)) ?_
 refine RL_nil ?_
 refine W_cond (by rfl) (fun hb => ?_) (fun hb => ?_)
 ·have hm := cond_t hb hm
  refine W_seq ?_
  refine W_region ?_
  refine RL_pure (by exact wn0 rfl) (by rfl) (by rfl) (x_build (vs := []) (cs := [.slice none 0 0]) (by rfl) (by kernel_rfl)) ?_
  refine RL_pure (by exact wn0 rfl) (by rfl) (by rfl) (x_build (vs := []) (cs := [.int .i64 0, .int .i64 0]) (by rfl) (by kernel_rfl)) ?_
  refine RL_pure (by exact wn0 rfl) (by rfl) (by rfl) (x_move (v := .int .i64 v12) (by rfl)) ?_
  refine RL_cons (O_store (i := 1) (off := 0) (by exact wn0 rfl) (by rfl) (by rfl) H (by rfl) (vs := [.slice none 0 0]) (by rfl) sz76 (by rfl) (by rfl) (by rfl) (fun w14 (H : Sep ok w w14 [.blk b5 76 [.slice A1 a0.Slots.length cp2], .blk b7 76 [.slice none 0 0], .blk b9 81 [.int .i64 0, .int .i64 0]] [RE.rd k_Slot A1 cp2 a0.Slots]) => ?_))
  refine RL_cons (O_store (i := 2) (off := 0) (by exact wn0 rfl) (by rfl) (by rfl) H (by rfl) (vs := [.int .i64 0, .int .i64 0]) (by rfl) sz81 (by rfl) (by rfl) (by rfl) (fun w15 (H : Sep ok w w15 [.blk b5 76 [.slice A1 a0.Slots.length cp2], .blk b7 76 [.slice none 0 0], .blk b9 81 [.int .i64 0, .int .i64 0]] [RE.rd k_Slot A1 cp2 a0.Slots]) => ?_))
  refine RL_pure (by exact wn0 rfl) (by rfl) (by rfl) (x_assign (v := .int .i64 v12) (by rfl)) ?_
  refine RL_nil ?_
  refine W_ret ?_
  have H : Sep ok w w15 [.blk b5 76 [.slice A1 a0.Slots.length cp2], .blk b7 76 [.slice none 0 0], .blk b9 81 [.int .i64 0, .int .i64 0]] [RE.rd k_Slot A1 cp2 a0.Slots, RE.rd k_Slot none 0 ([])] := Sep.also H (re := RE.rd k_Slot none 0 ([])) (Rd.nil (by decide))
  obtain rfl := Option.some.inj hm
  exact ⟨[.agg #[.slice none 0 0], .agg #[.int .i64 0, .int .i64 0], .int .i64 v12], (.cellA (by rfl) ag76 (H.cells (i := 1) (by rfl)) (by rfl) (.cellA (by rfl) ag81 (H.cells (i := 2) (by rfl)) (by rfl) (.tmp (by rfl) rfl))), none, 0, rfl, (H.forgetAll).pick [1]⟩
 ·have hm := cond_f hb hm
  refine W_skip ?_
  refine W_seq ?_
  refine W_region ?_
  refine RL_pure (by exact wn0 rfl) (by rfl) (by rfl) (x_loadA (j := 0) (vs := [.slice A1 a0.Slots.length cp2]) ag76 (by rfl) (H.cells (i := 0) (by rfl)) (by rfl) (by rfl)) ?_
  obtain ⟨v18, hv17, hm⟩ := bind_some hm
  refine RL_cons (O_call (by exact wn0 rfl) (by rfl) (by rfl) (x_callL (by rfl) (args := [.agg #[.slice A1 a0.Slots.length cp2]]) (by rfl) (cf102 _ _)) (c102 (okS ok w [.blk b5 76 [.slice A1 a0.Slots.length cp2], .blk b7 76 [.slice none 0 0], .blk b9 81 [.int .i64 0, .int .i64 0]]) K w13 a0 A1 cp2 (H.rd (i := 0) (by rfl)) v18 hv17) ?_)
  rintro e w19 ⟨A20, cp21, cs22, rfl, H2⟩
  have H : Sep ok w w19 [.blk b5 76 [.slice A1 a0.Slots.length cp2], .blk b7 76 [.slice none 0 0], .blk b9 81 [.int .i64 0, .int .i64 0], .row (.slice A20 v18.Slots.length cp21) 96 k_Slot.sz v18.Slots.length cs22] [RE.rd k_Slot A1 cp2 a0.Slots, RE.chunks k_Slot cs22 v18.Slots] := H.call H2
  clear H2
  refine ⟨_, rfl, ?_⟩
  show RL _ _ _ _ _ _ _
  refine RL_cons (O_store (i := 0) (off := 0) (by exact wn0 rfl) (by rfl) (by rfl) H (by rfl) (vs := [.slice A20 v18.Slots.length cp21]) (by rfl) sz76 (by rfl) (by rfl) (by rfl) (fun w25 (H : Sep ok w w25 [.blk b5 76 [.slice A20 v18.Slots.length cp21], .blk b7 76 [.slice none 0 0], .blk b9 81 [.int .i64 0, .int .i64 0], .row (.slice A20 v18.Slots.length cp21) 96 k_Slot.sz v18.Slots.length cs22] [RE.rd k_Slot A1 cp2 a0.Slots, RE.chunks k_Slot cs22 v18.Slots]) => ?_))
  refine RL_nil ?_
  refine W_seq ?_
  refine W_region ?_
  refine RL_pure (by exact wn0 rfl) (by rfl) (by rfl) (x_makeFuncF (us := [.int .i64 1073741824]) (vs := []) (by rfl) (by rfl)) ?_
  refine RL_pure (by exact wn0 rfl) (by rfl) (by rfl) (x_assign (v := .func (.func 125) #[.int .i64 1073741824] #[]) (by rfl)) ?_
  refine RL_nil ?_
  refine W_seq ?_
  refine W_region ?_
  refine RL_pure (by exact wn0 rfl) (by rfl) (by rfl) (x_fieldAddr fo76_0 (by rfl)) ?_
  refine RL_pure (by exact wn0 rfl) (by rfl) (by rfl) (x_load (j := 0) (v := .slice A20 v18.Slots.length cp21) sc74 (by rfl) (H.cells (i := 0) (by rfl)) (by rfl)) ?_
  refine RL_pure (by exact wn0 rfl) (by rfl) (by rfl) (x_move (v := .func (.func 125) #[.int .i64 1073741824] #[]) (by rfl)) ?_
  obtain ⟨v27, hv26, hm⟩ := bind_some hm
  refine RL_cons (O_call (by exact wn0 rfl) (by rfl) (by rfl) (x_callL (by rfl) (args := [.slice A20 v18.Slots.length cp21, .func (.func 125) #[.int .i64 1073741824] #[]]) (by rfl) (cf126 _ _)) (c126 (fun (_ : Unit) wS => Sep ok w wS [.blk b5 76 [.slice A20 v18.Slots.length cp21], .blk b7 76 [.slice none 0 0], .blk b9 81 [.int .i64 0, .int .i64 0], .row (.slice A20 v18.Slots.length cp21) 96 k_Slot.sz v18.Slots.length cs22] [RE.rd k_Slot A1 cp2 a0.Slots, RE.chunks k_Slot cs22 v18.Slots]) (fun (_ : Unit) (x : S_Slot) => (m125 K 1073741824 x).map fun b => (b, ())) 125 [.int .i64 1073741824] [] v18.Slots A20 cp21 (fun _ wS (H : Sep ok w wS [.blk b5 76 [.slice A20 v18.Slots.length cp21], .blk b7 76 [.slice none 0 0], .blk b9 81 [.int .i64 0, .int .i64 0], .row (.slice A20 v18.Slots.length cp21) 96 k_Slot.sz v18.Slots.length cs22] [RE.rd k_Slot A1 cp2 a0.Slots, RE.chunks k_Slot cs22 v18.Slots]) => (H.rowRd (i := 3) (j := 1) (by rfl) (by rfl))) cf125 (fun _ wS x q (H : Sep ok w wS [.blk b5 76 [.slice A20 v18.Slots.length cp21], .blk b7 76 [.slice none 0 0], .blk b9 81 [.int .i64 0, .int .i64 0], .row (.slice A20 v18.Slots.length cp21) 96 k_Slot.sz v18.Slots.length cs22] [RE.rd k_Slot A1 cp2 a0.Slots, RE.chunks k_Slot cs22 v18.Slots]) hq => by obtain ⟨b, hb, rfl⟩ := Option.map_eq_some_iff.1 hq; exact (c125 okT K wS 1073741824 x  b hb).mono fun e w_ h => ⟨h.1, H.below h.2.base⟩) () w25 H v27 hv26) ?_)
  rintro e w28 ⟨rfl, H⟩
  have H : Sep ok w w28 [.blk b5 76 [.slice A20 v18.Slots.length cp21], .blk b7 76 [.slice none 0 0], .blk b9 81 [.int .i64 0, .int .i64 0], .row (.slice A20 v18.Slots.length cp21) 96 k_Slot.sz v18.Slots.length cs22] [RE.rd k_Slot A1 cp2 a0.Slots, RE.chunks k_Slot cs22 v18.Slots] := H
  refine ⟨_, rfl, ?_⟩
  show RL _ _ _ _ _ _ _
  refine RL_pure (by exact wn0 rfl) (by rfl) (by rfl) (x_assign (v := .int .i64 v27.1) (by rfl)) ?_
  refine RL_nil ?_
  refine W_join (fun r' w' => ∃ (l_row23_1 : (List S_Slot)), ∃ (y7_1 : Int), ∃ (A_row23_1 : Option Addr), ∃ (c_row23_1 : Nat), ∃ (cs_row23_1 : List Value), m94_j1 K l_row23_1 y7_1 = some res ∧ Agr [(1, .pointer (some ⟨b5, 0, none⟩)), (2, .pointer (some ⟨b7, 0, none⟩)), (3, .pointer (some ⟨b9, 0, none⟩)), (7, .int .i64 y7_1)] r' ∧ Sep ok w w' [.blk b5 76 [.slice A_row23_1 l_row23_1.length c_row23_1], .blk b7 76 [.slice none 0 0], .blk b9 81 [.int .i64 0, .int .i64 0], .row (.slice A_row23_1 l_row23_1.length c_row23_1) 96 k_Slot.sz l_row23_1.length cs_row23_1] [RE.rd k_Slot A1 cp2 a0.Slots, RE.chunks k_Slot cs_row23_1 l_row23_1]) ?_ ?_
  ·show W _ _ _ _ _ _
   refine W_block ?_
   refine W_seq ?_
   refine W_region ?_
   refine RL_pure (by exact wn0 rfl) (by rfl) (by rfl) (x_move (v := .int .i64 v27.1) (by rfl)) ?_
   refine RL_pure (by exact wn0 rfl) (by rfl) (by rfl) (x_geq (by rfl) (by rfl)) ?_
   refine RL_pure (by exact wn0 rfl) (by rfl) (by rfl) (x_assign (v := .bool (decide (0 ≤ v27.1))) (by rfl)) ?_
   refine RL_nil ?_
   refine W_cond (by rfl) (fun hb => ?_) (fun hb => ?_)
   ·have hm := cond_t hb hm
    refine W_draw [.free 0, .take 1, .free 2, .free 3, .take 4, .free 5, .free 6, .free 7, .take 8, .free 9, .free 10, .free 11, .tail 12] (fun wS => Sep ok w wS [.blk b5 76 [.slice A20 v18.Slots.length cp21], .blk b7 76 [.slice none 0 0], .blk b9 81 [.int .i64 0, .int .i64 0], .row (.slice A20 v18.Slots.length cp21) 96 k_Slot.sz v18.Slots.length cs22] [RE.rd k_Slot A1 cp2 a0.Slots, RE.chunks k_Slot cs22 v18.Slots]) [12] [0, 2, 3, 5, 6, 7, 9, 10, 11] mixed0 (by kernel_rfl) (by kernel_rfl) (by kernel_rfl) (by rfl) (by exact H.drew) ?_
    obtain ⟨w29, hW⟩ : ∃ W : World, W = { w28 with drawn := w28.drawn + 1 } := ⟨_, rfl⟩
    rw [← hW]
    have H : Sep ok w w29 [.blk b5 76 [.slice A20 v18.Slots.length cp21], .blk b7 76 [.slice none 0 0], .blk b9 81 [.int .i64 0, .int .i64 0], .row (.slice A20 v18.Slots.length cp21) 96 k_Slot.sz v18.Slots.length cs22] [RE.rd k_Slot A1 cp2 a0.Slots, RE.chunks k_Slot cs22 v18.Slots] := by rw [hW]; exact H.drew
    clear hW
    refine PR_free (by rfl) (by rfl) (by rfl) (by exact wn0 rfl) (fun wS => (x_fieldAddr fo76_0 (by rfl))) ?_
    refine PR_take (by rfl) (by rfl) (by rfl) (by exact wn0 rfl) (fun wS (H : Sep ok w wS [.blk b5 76 [.slice A20 v18.Slots.length cp21], .blk b7 76 [.slice none 0 0], .blk b9 81 [.int .i64 0, .int .i64 0], .row (.slice A20 v18.Slots.length cp21) 96 k_Slot.sz v18.Slots.length cs22] [RE.rd k_Slot A1 cp2 a0.Slots, RE.chunks k_Slot cs22 v18.Slots]) => (x_load (j := 0) (v := .slice A20 v18.Slots.length cp21) sc74 (by rfl) (H.cells (i := 0) (by rfl)) (by rfl))) ?_
    refine PR_free (by rfl) (by rfl) (by rfl) (by exact wn0 rfl) (fun wS => (x_move (v := .int .i64 v27.1) (by rfl))) ?_
    refine PR_free (by rfl) (by rfl) (by rfl) (by exact wn0 rfl) (fun wS => (x_fieldAddr fo76_0 (by rfl))) ?_
    refine PR_take (by rfl) (by rfl) (by rfl) (by exact wn0 rfl) (fun wS (H : Sep ok w wS [.blk b5 76 [.slice A20 v18.Slots.length cp21], .blk b7 76 [.slice none 0 0], .blk b9 81 [.int .i64 0, .int .i64 0], .row (.slice A20 v18.Slots.length cp21) 96 k_Slot.sz v18.Slots.length cs22] [RE.rd k_Slot A1 cp2 a0.Slots, RE.chunks k_Slot cs22 v18.Slots]) => (x_load (j := 0) (v := .slice A20 v18.Slots.length cp21) sc74 (by rfl) (H.cells (i := 0) (by rfl)) (by rfl))) ?_
    refine PR_free (by rfl) (by rfl) (by rfl) (by exact wn0 rfl) (fun wS => (x_move (v := .int .i64 v27.1) (by rfl))) ?_
    obtain ⟨el30, h31, h32, he33, hm⟩ := idx_some hm
    obtain ⟨g35, _, hA34, _, _⟩ := H.rowIdx (i := 3) (j := 1) (by rfl) (by rfl) he33
    refine PR_free (by rfl) (by rfl) (by rfl) (by exact wn0 rfl) (fun wS => (x_indexAddr sl74 sz96 (by rfl) (by rfl) hA34 h31 h32)) ?_
    refine PR_free (by rfl) (by rfl) (by rfl) (by exact wn0 rfl) (fun wS => (x_fieldAddr fo96_0 (by rfl))) ?_
    refine PR_take (by rfl) (by rfl) (by rfl) (by exact wn0 rfl) (fun wS (H : Sep ok w wS [.blk b5 76 [.slice A20 v18.Slots.length cp21], .blk b7 76 [.slice none 0 0], .blk b9 81 [.int .i64 0, .int .i64 0], .row (.slice A20 v18.Slots.length cp21) 96 k_Slot.sz v18.Slots.length cs22] [RE.rd k_Slot A1 cp2 a0.Slots, RE.chunks k_Slot cs22 v18.Slots]) => (x_load (j := 0) (v := .int .i64 el30.Gen) sc3 (by rfl) (H.rowFlatAt (n := 2) (i := 3) (j := 1) (by rfl) (by rfl) hA34 he33) (by rfl))) ?_
    obtain ⟨x37, ex37, qx37, ux37, hm⟩ := ck_some hm
    refine PR_free (by rfl) (by rfl) (by rfl) (by exact wn0 rfl) (fun wS => (x_add (by rfl) (by rfl) ux37)) ?_
    refine PR_free (by rfl) (by rfl) (by rfl) (by exact wn0 rfl) (fun wS => (x_build (vs := [(0, .int .i64 x37), (1, .bool true)]) (cs := [.int .i64 x37, .bool true]) (by rfl) (by kernel_rfl))) ?_
    obtain ⟨el38, h39, h40, he41, hm⟩ := idx_some hm
    obtain ⟨g43, _, hA42, _, _⟩ := H.rowIdx (i := 3) (j := 1) (by rfl) (by rfl) he41
    refine PR_free (by rfl) (by rfl) (by rfl) (by exact wn0 rfl) (fun wS => (x_indexAddr sl74 sz96 (by rfl) (by rfl) hA42 h39 h40)) ?_
    obtain ⟨l47, hl48, hm⟩ := lete_some hm
    refine PR_tail (by rfl) (O_storeRow (D := k_Slot) (i := 3) (j := 1) (off := 0) (m := v27.1) (a := el38) (b := (⟨x37, true⟩ : S_Slot)) (vs := [.int .i64 x37, .bool true]) (by exact wn0 rfl) H (by rfl) (by rfl) hA42 (by rfl) (by rfl) he41 (by rfl) sz96 (by rfl) (by rfl) (by intro ce hce; obtain rfl := hce; rfl) hl48 (fun w45 cs46 (H : Sep ok w w45 [.blk b5 76 [.slice A20 v18.Slots.length cp21], .blk b7 76 [.slice none 0 0], .blk b9 81 [.int .i64 0, .int .i64 0], .row (.slice A20 l47.length cp21) 96 k_Slot.sz l47.length cs46] [RE.rd k_Slot A1 cp2 a0.Slots, RE.chunks k_Slot cs46 l47]) => ?_))
    refine PR_nil ?_
    have hn49 : v18.Slots.length = l47.length := by rw [← hl48]; exact (List.length_set ..).symm
    have H : Sep ok w w45 [.blk b5 76 [.slice A20 l47.length cp21], .blk b7 76 [.slice none 0 0], .blk b9 81 [.int .i64 0, .int .i64 0], .row (.slice A20 l47.length cp21) 96 k_Slot.sz l47.length cs46] [RE.rd k_Slot A1 cp2 a0.Slots, RE.chunks k_Slot cs46 l47] := by (try rw [hn49] at H); exact H
    exact ⟨l47, v27.1, A20, cp21, cs46, hm, ⟨rfl, rfl, rfl, rfl, trivial⟩, H⟩
   ·have hm := cond_f hb hm
    refine W_seq ?_
    refine W_region ?_
    refine RL_pure (by exact wn0 rfl) (by rfl) (by rfl) (x_fieldAddr fo76_0 (by rfl)) ?_
    refine RL_pure (by exact wn0 rfl) (by rfl) (by rfl) (x_load (j := 0) (v := .slice A20 v18.Slots.length cp21) sc74 (by rfl) (H.cells (i := 0) (by rfl)) (by rfl)) ?_
    refine RL_pure (by exact wn0 rfl) (by rfl) (by rfl) (x_len sl74 (by rfl)) ?_
    refine RL_pure (by exact wn0 rfl) (by rfl) (by rfl) (x_eql (by rfl) (by rfl)) ?_
    refine RL_pure (by exact wn0 rfl) (by rfl) (by rfl) (x_assign (v := .bool ((v18.Slots.length : Int) == 128)) (by rfl)) ?_
    refine RL_nil ?_
    refine W_cond (by rfl) (fun hb => ?_) (fun hb => ?_)
    ·have hm := cond_t hb hm
     refine W_seq ?_
     refine W_region ?_
     refine RL_pure (by exact wn0 rfl) (by rfl) (by rfl) (x_build (vs := []) (cs := [.slice none 0 0]) (by rfl) (by kernel_rfl)) ?_
     refine RL_pure (by exact wn0 rfl) (by rfl) (by rfl) (x_build (vs := []) (cs := [.int .i64 0, .int .i64 0]) (by rfl) (by kernel_rfl)) ?_
     refine RL_cons (O_store (i := 1) (off := 0) (by exact wn0 rfl) (by rfl) (by rfl) H (by rfl) (vs := [.slice none 0 0]) (by rfl) sz76 (by rfl) (by rfl) (by rfl) (fun w50 (H : Sep ok w w50 [.blk b5 76 [.slice A20 v18.Slots.length cp21], .blk b7 76 [.slice none 0 0], .blk b9 81 [.int .i64 0, .int .i64 0], .row (.slice A20 v18.Slots.length cp21) 96 k_Slot.sz v18.Slots.length cs22] [RE.rd k_Slot A1 cp2 a0.Slots, RE.chunks k_Slot cs22 v18.Slots]) => ?_))
     refine RL_cons (O_store (i := 2) (off := 0) (by exact wn0 rfl) (by rfl) (by rfl) H (by rfl) (vs := [.int .i64 0, .int .i64 0]) (by rfl) sz81 (by rfl) (by rfl) (by rfl) (fun w51 (H : Sep ok w w51 [.blk b5 76 [.slice A20 v18.Slots.length cp21], .blk b7 76 [.slice none 0 0], .blk b9 81 [.int .i64 0, .int .i64 0], .row (.slice A20 v18.Slots.length cp21) 96 k_Slot.sz v18.Slots.length cs22] [RE.rd k_Slot A1 cp2 a0.Slots, RE.chunks k_Slot cs22 v18.Slots]) => ?_))
     refine RL_pure (by exact wn0 rfl) (by rfl) (by rfl) (x_assign (v := .int .i64 9) (by rfl)) ?_
     refine RL_nil ?_
     refine W_ret ?_
     have H : Sep ok w w51 [.blk b5 76 [.slice A20 v18.Slots.length cp21], .blk b7 76 [.slice none 0 0], .blk b9 81 [.int .i64 0, .int .i64 0], .row (.slice A20 v18.Slots.length cp21) 96 k_Slot.sz v18.Slots.length cs22] [RE.rd k_Slot A1 cp2 a0.Slots, RE.chunks k_Slot cs22 v18.Slots, RE.rd k_Slot none 0 ([])] := Sep.also H (re := RE.rd k_Slot none 0 ([])) (Rd.nil (by decide))
     obtain rfl := Option.some.inj hm
     exact ⟨[.agg #[.slice none 0 0], .agg #[.int .i64 0, .int .i64 0], .int .i64 9], (.cellA (by rfl) ag76 (H.cells (i := 1) (by rfl)) (by rfl) (.cellA (by rfl) ag81 (H.cells (i := 2) (by rfl)) (by rfl) (.tmp (by rfl) rfl))), none, 0, rfl, (H.forgetAll).pick [2]⟩
    ·have hm := cond_f hb hm
     refine W_seq ?_
     refine W_region ?_
     refine RL_pure (by exact wn0 rfl) (by rfl) (by rfl) (x_fieldAddr fo76_0 (by rfl)) ?_
     refine RL_pure (by exact wn0 rfl) (by rfl) (by rfl) (x_load (j := 0) (v := .slice A20 v18.Slots.length cp21) sc74 (by rfl) (H.cells (i := 0) (by rfl)) (by rfl)) ?_
     refine RL_pure (by exact wn0 rfl) (by rfl) (by rfl) (x_len sl74 (by rfl)) ?_
     refine RL_pure (by exact wn0 rfl) (by rfl) (by rfl) (x_assign (v := .int .i64 (v18.Slots.length : Int)) (by rfl)) ?_
     refine RL_nil ?_
     refine W_region ?_
     refine RL_pure (by exact wn0 rfl) (by rfl) (by rfl) (x_fieldAddr fo76_0 (by rfl)) ?_
     refine RL_pure (by exact wn0 rfl) (by rfl) (by rfl) (x_load (j := 0) (v := .slice A20 v18.Slots.length cp21) sc74 (by rfl) (H.cells (i := 0) (by rfl)) (by rfl)) ?_
     refine RL_pure (by exact wn0 rfl) (by rfl) (by rfl) (x_build (vs := [(0, .int .i64 1), (1, .bool true)]) (cs := [.int .i64 1, .bool true]) (by rfl) (by kernel_rfl)) ?_
     refine RL_cons (O_buildSlice (vs := [(0, .agg #[.int .i64 1, .bool true])]) (cs := [.int .i64 1, .bool true]) (by exact wn0 rfl) (by rfl) sl74 sz96 ze96 (by rfl) (by rfl) (by rfl) (by kernel_rfl) H (fun w54 b53 (H : Sep ok w w54 [.blk b5 76 [.slice A20 v18.Slots.length cp21], .blk b7 76 [.slice none 0 0], .blk b9 81 [.int .i64 0, .int .i64 0], .row (.slice A20 v18.Slots.length cp21) 96 k_Slot.sz v18.Slots.length cs22, .blk b53 96 [.int .i64 1, .bool true]] [RE.rd k_Slot A1 cp2 a0.Slots, RE.chunks k_Slot cs22 v18.Slots]) => ?_))
     obtain ⟨l59, hl60, hb61, hm⟩ := apd_some hm
     refine RL_cons (O_append (D := k_Slot) (i := 3) (j := 1) (o := 0) (y := (⟨1, true⟩ : S_Slot)) (by exact wn0 rfl) (by rfl) (by rfl) (by rfl) H (by rfl) (by rfl) (H.cells (i := 4) (by rfl)) rfl hl60 sl74 sz96 by96 ze96 (by rfl) (by rfl) hb61 (by rfl) (fun w55 A56 cp57 cs58 (H : Sep ok w w55 [.blk b5 76 [.slice A20 v18.Slots.length cp21], .blk b7 76 [.slice none 0 0], .blk b9 81 [.int .i64 0, .int .i64 0], .row (.slice A56 l59.length cp57) 96 k_Slot.sz l59.length cs58, .blk b53 96 [.int .i64 1, .bool true]] [RE.rd k_Slot A1 cp2 a0.Slots, RE.chunks k_Slot cs58 l59]) => ?_))
     refine RL_pure (by exact wn0 rfl) (by rfl) (by rfl) (x_fieldAddr fo76_0 (by rfl)) ?_
     refine RL_cons (O_store (i := 0) (off := 0) (by exact wn0 rfl) (by rfl) (by rfl) H (by rfl) (vs := [.slice A56 l59.length cp57]) (by rfl) sz74 (by rfl) (by rfl) (by rfl) (fun w62 (H : Sep ok w w62 [.blk b5 76 [.slice A56 l59.length cp57], .blk b7 76 [.slice none 0 0], .blk b9 81 [.int .i64 0, .int .i64 0], .row (.slice A56 l59.length cp57) 96 k_Slot.sz l59.length cs58, .blk b53 96 [.int .i64 1, .bool true]] [RE.rd k_Slot A1 cp2 a0.Slots, RE.chunks k_Slot cs58 l59]) => ?_))
     refine RL_nil ?_
     exact ⟨l59, (v18.Slots.length : Int), A56, cp57, cs58, hm, ⟨rfl, rfl, rfl, rfl, trivial⟩, (H).takeL 4⟩
  ·rintro r' w' ⟨l_row23_1, y7_1, A_row23_1, c_row23_1, cs_row23_1, hm, hA, H⟩
   obtain ⟨r63, rfl⟩ := regen _ hA; clear hA
   obtain ⟨w64, rfl⟩ : ∃ W : World, W = w' := ⟨_, rfl⟩
   unfold m94_j1 at hm
   refine W_seq ?_
   refine W_draw [.take 0, .free 1, .free 2, .take 3, .free 4, .free 5, .free 6, .take 7, .free 8, .run 9, .tail 10, .free 11] (fun wS => Sep ok w wS [.blk b5 76 [.slice A_row23_1 l_row23_1.length c_row23_1], .hole, .blk b9 81 [.int .i64 0, .int .i64 0], .row (.slice A_row23_1 l_row23_1.length c_row23_1) 96 k_Slot.sz l_row23_1.length cs_row23_1] [RE.rd k_Slot A1 cp2 a0.Slots, RE.chunks k_Slot cs_row23_1 l_row23_1]) [10] [1, 2, 4, 5, 6, 8, 11] mixed0 (by kernel_rfl) (by kernel_rfl) (by kernel_rfl) (by rfl) (by exact (Sep.holeL H.drew 1)) ?_
   obtain ⟨w65, hW⟩ : ∃ W : World, W = { w64 with drawn := w64.drawn + 1 } := ⟨_, rfl⟩
   rw [← hW]
   have H : Sep ok w w65 [.blk b5 76 [.slice A_row23_1 l_row23_1.length c_row23_1], .blk b7 76 [.slice none 0 0], .blk b9 81 [.int .i64 0, .int .i64 0], .row (.slice A_row23_1 l_row23_1.length c_row23_1) 96 k_Slot.sz l_row23_1.length cs_row23_1] [RE.rd k_Slot A1 cp2 a0.Slots, RE.chunks k_Slot cs_row23_1 l_row23_1] := by rw [hW]; exact H.drew
   clear hW
   refine PR_take (by rfl) (by rfl) (by rfl) (by exact wn0 rfl) (fun wS (H : Sep ok w wS [.blk b5 76 [.slice A_row23_1 l_row23_1.length c_row23_1], .hole, .blk b9 81 [.int .i64 0, .int .i64 0], .row (.slice A_row23_1 l_row23_1.length c_row23_1) 96 k_Slot.sz l_row23_1.length cs_row23_1] [RE.rd k_Slot A1 cp2 a0.Slots, RE.chunks k_Slot cs_row23_1 l_row23_1]) => (x_loadA (j := 0) (vs := [.slice A_row23_1 l_row23_1.length c_row23_1]) ag76 (by rfl) (H.cells (i := 0) (by rfl)) (by rfl) (by rfl))) ?_
   refine PR_free (by rfl) (by rfl) (by rfl) (by exact wn0 rfl) (fun wS => (x_move (v := .int .i64 y7_1) (by rfl))) ?_
   refine PR_free (by rfl) (by rfl) (by rfl) (by exact wn0 rfl) (fun wS => (x_fieldAddr fo76_0 (by rfl))) ?_
   refine PR_take (by rfl) (by rfl) (by rfl) (by exact wn0 rfl) (fun wS (H : Sep ok w wS [.blk b5 76 [.slice A_row23_1 l_row23_1.length c_row23_1], .hole, .blk b9 81 [.int .i64 0, .int .i64 0], .row (.slice A_row23_1 l_row23_1.length c_row23_1) 96 k_Slot.sz l_row23_1.length cs_row23_1] [RE.rd k_Slot A1 cp2 a0.Slots, RE.chunks k_Slot cs_row23_1 l_row23_1]) => (x_load (j := 0) (v := .slice A_row23_1 l_row23_1.length c_row23_1) sc74 (by rfl) (H.cells (i := 0) (by rfl)) (by rfl))) ?_
   refine PR_free (by rfl) (by rfl) (by rfl) (by exact wn0 rfl) (fun wS => (x_move (v := .int .i64 y7_1) (by rfl))) ?_
   obtain ⟨el66, h67, h68, he69, hm⟩ := idx_some hm
   obtain ⟨g71, _, hA70, _, _⟩ := H.rowIdx (i := 3) (j := 1) (by rfl) (by rfl) he69
   refine PR_free (by rfl) (by rfl) (by rfl) (by exact wn0 rfl) (fun wS => (x_indexAddr sl74 sz96 (by rfl) (by rfl) hA70 h67 h68)) ?_
   refine PR_free (by rfl) (by rfl) (by rfl) (by exact wn0 rfl) (fun wS => (x_fieldAddr fo96_0 (by rfl))) ?_
   refine PR_take (by rfl) (by rfl) (by rfl) (by exact wn0 rfl) (fun wS (H : Sep ok w wS [.blk b5 76 [.slice A_row23_1 l_row23_1.length c_row23_1], .hole, .blk b9 81 [.int .i64 0, .int .i64 0], .row (.slice A_row23_1 l_row23_1.length c_row23_1) 96 k_Slot.sz l_row23_1.length cs_row23_1] [RE.rd k_Slot A1 cp2 a0.Slots, RE.chunks k_Slot cs_row23_1 l_row23_1]) => (x_load (j := 0) (v := .int .i64 el66.Gen) sc3 (by rfl) (H.rowFlatAt (n := 2) (i := 3) (j := 1) (by rfl) (by rfl) hA70 he69) (by rfl))) ?_
   refine PR_free (by rfl) (by rfl) (by rfl) (by exact wn0 rfl) (fun wS => (x_build (vs := [(0, .int .i64 y7_1), (1, .int .i64 el66.Gen)]) (cs := [.int .i64 y7_1, .int .i64 el66.Gen]) (by rfl) (by kernel_rfl))) ?_
   refine PR_run (by rfl) (O_store (i := 1) (off := 0) (by exact wn0 rfl) (by rfl) (by rfl) H (by rfl) (vs := [.slice A_row23_1 l_row23_1.length c_row23_1]) (by rfl) sz76 (by rfl) (by rfl) (by rfl) (fun w73 (H : Sep ok w w73 [.blk b5 76 [.slice A_row23_1 l_row23_1.length c_row23_1], .blk b7 76 [.slice A_row23_1 l_row23_1.length c_row23_1], .blk b9 81 [.int .i64 0, .int .i64 0], .row (.slice A_row23_1 l_row23_1.length c_row23_1) 96 k_Slot.sz l_row23_1.length cs_row23_1] [RE.rd k_Slot A1 cp2 a0.Slots, RE.chunks k_Slot cs_row23_1 l_row23_1]) => ⟨(Sep.holeL H 1), ?_⟩))
   refine PR_tail (by rfl) (O_store (i := 2) (off := 0) (by exact wn0 rfl) (by rfl) (by rfl) H (by rfl) (vs := [.int .i64 y7_1, .int .i64 el66.Gen]) (by rfl) sz81 (by rfl) (by rfl) (by rfl) (fun w74 (H : Sep ok w w74 [.blk b5 76 [.slice A_row23_1 l_row23_1.length c_row23_1], .blk b7 76 [.slice A_row23_1 l_row23_1.length c_row23_1], .blk b9 81 [.int .i64 y7_1, .int .i64 el66.Gen], .row (.slice A_row23_1 l_row23_1.length c_row23_1) 96 k_Slot.sz l_row23_1.length cs_row23_1] [RE.rd k_Slot A1 cp2 a0.Slots, RE.chunks k_Slot cs_row23_1 l_row23_1]) => ?_))
   refine PR_free (by rfl) (by rfl) (by rfl) (by exact wn0 rfl) (fun wS => (x_assign (v := .int .i64 0) (by rfl))) ?_
   refine PR_nil ?_
   refine W_ret ?_
   have H : Sep ok w w74 [.blk b5 76 [.slice A_row23_1 l_row23_1.length c_row23_1], .blk b7 76 [.slice A_row23_1 l_row23_1.length c_row23_1], .blk b9 81 [.int .i64 y7_1, .int .i64 el66.Gen], .hole] [RE.rd k_Slot A1 cp2 a0.Slots, RE.rd k_Slot A_row23_1 c_row23_1 l_row23_1] := H.frozen (i := 3) (j := 1) (by rfl) (by rfl)
   obtain rfl := Option.some.inj hm
   exact ⟨[.agg #[.slice A_row23_1 l_row23_1.length c_row23_1], .agg #[.int .i64 y7_1, .int .i64 el66.Gen], .int .i64 0], (.cellA (by rfl) ag76 (H.cells (i := 1) (by rfl)) (by rfl) (.cellA (by rfl) ag81 (H.cells (i := 2) (by rfl)) (by rfl) (.tmp (by rfl) rfl))), A_row23_1, c_row23_1, rfl, (H.forgetAll).pick [1]⟩

set_option maxRecDepth 100000 in
set_option maxHeartbeats 4000000 in
theorem c94n (ok : Okp) (hno : ∀ k, ¬ ok.wr k) (K : Nat) (w : World) (a0 : S_Arena) (A1 : Option Addr) (cp2 : Nat) (hR3 : Rd k_Slot w ok A1 cp2 a0.Slots) (res : S_Arena × S_Handle × Int) (hm : m94 K a0 = some res) :
  Calls Try.prog 94 #[.agg #[.slice A1 a0.Slots.length cp2]] w (fun e w' => ∃ (A0_ : Option Addr) (c0_ : Nat), e = .returned (tup [.agg #[.slice A0_ res.1.Slots.length c0_], .agg #[.int .i64 res.2.1.Slot, .int .i64 res.2.1.Gen], .int .i64 res.2.2]) ∧ Sep ok w w' [] [RE.fr w.heap.size k_Slot A0_ c0_ res.1.Slots]) := by
 refine calls_W (args := [.agg #[.slice A1 a0.Slots.length cp2]]) Try.func94 rfl Try.ntmps94 Try.results94 rfl fun r hr => ?_
 obtain ⟨r1, rfl⟩ := regen (r := r) [(0, .agg #[.slice A1 a0.Slots.length cp2])] ⟨hr 0 _ rfl, trivial⟩
 have H : Sep ok w w [] [RE.rd k_Slot A1 cp2 a0.Slots] := Sep.arg (Sep.start ok w) (re := RE.rd k_Slot A1 cp2 a0.Slots) rfl rfl hR3
 unfold m94 at hm
 refine W_seq ?_
 refine W_region ?_
 refine RL_cons (O_box (by exact wn0 rfl) (by rfl) (by rfl) (by rfl) H (fun w6 b5 (H : Sep ok w w6 [.blk b5 76 [.slice A1 a0.Slots.length cp2]] [RE.rd k_Slot A1 cp2 a0.Slots]) => ?_))
 refine RL_cons (O_alloc (by exact wn0 rfl) (by rfl) ze76 (by rfl) H (fun w8 b7 (H : Sep ok w w8 [.blk b5 76 [.slice A1 a0.Slots.length cp2], .blk b7 76 [.slice none 0 0]] [RE.rd k_Slot A1 cp2 a0.Slots]) => ?_))
 refine RL_cons (O_alloc (by exact wn0 rfl) (by rfl) ze81 (by rfl) H (fun w10 b9 (H : Sep ok w w10 [.blk b5 76 [.slice A1 a0.Slots.length cp2], .blk b7 76 [.slice none 0 0], .blk b9 81 [.int .i64 0, .int .i64 0]] [RE.rd k_Slot A1 cp2 a0.Slots]) => ?_))
 refine RL_pure (by exact wn0 rfl) (by rfl) (by rfl) (x_assign (v := .int .i64 0) (by rfl)) ?_
 refine RL_nil ?_
 refine W_seq ?_
 refine W_seq ?_
 refine W_region ?_
 refine RL_pure (by exact wn0 rfl) (by rfl) (by rfl) (x_loadA (j := 0) (vs := [.slice A1 a0.Slots.length cp2]) ag76 (by rfl) (H.cells (i := 0) (by rfl)) (by rfl) (by rfl)) ?_
 obtain ⟨v12, hv11, hm⟩ := bind_some hm
 refine RL_cons (O_call (by exact wn0 rfl) (by rfl) (by rfl) (x_callL (by rfl) (args := [.agg #[.slice A1 a0.Slots.length cp2]]) (by rfl) (cf88 _ _)) (c88 okT K w10 a0 A1 cp2 (H.rd (i := 0) (by rfl)).any v12 hv11) ?_)
 rintro e w13 ⟨rfl, H2⟩
 have H : Sep ok w w13 [.blk b5 76 [.slice A1 a0.Slots.length cp2], .blk b7 76 [.slice none 0 0], .blk b9 81 [.int .i64 0, .int .i64 0]] [RE.rd k_Slot A1 cp2 a0.Slots] := H.below H2.base
 clear H2
 refine ⟨_, rfl, ?_⟩
 show RL _ _ _ _ _ _ _
 refine RL_pure (by exact wn0 rfl) (by rfl) (by rfl) (x_assign (v := .int .i64 v12) (by rfl)) ?_
 refine RL_nil ?_
 refine W_seq ?_
 refine W_region ?_
 refine RL_pure (by exact wn0 rfl) (by rfl) (by rfl) (x_move (v := .int .i64 v12) (by rfl)) ?_
 refine RL_pure (by exact wn0 rfl) (by rfl) (by rfl) (x_neq (by rfl) (by rfl)) ?_
 refine RL_nil ?_
 refine W_cond (by rfl) (fun hb => ?_) (fun hb => ?_)
 ·have hm := cond_t hb hm
  refine W_seq ?_
  refine W_region ?_
  refine RL_pure (by exact wn0 rfl) (by rfl) (by rfl) (x_build (vs := []) (cs := [.slice none 0 0]) (by rfl) (by kernel_rfl)) ?_
  refine RL_pure (by exact wn0 rfl) (by rfl) (by rfl) (x_build (vs := []) (cs := [.int .i64 0, .int .i64 0]) (by rfl) (by kernel_rfl)) ?_
  refine RL_pure (by exact wn0 rfl) (by rfl) (by rfl) (x_move (v := .int .i64 v12) (by rfl)) ?_
  refine RL_cons (O_store (i := 1) (off := 0) (by exact wn0 rfl) (by rfl) (by rfl) H (by rfl) (vs := [.slice none 0 0]) (by rfl) sz76 (by rfl) (by rfl) (by rfl) (fun w14 (H : Sep ok w w14 [.blk b5 76 [.slice A1 a0.Slots.length cp2], .blk b7 76 [.slice none 0 0], .blk b9 81 [.int .i64 0, .int .i64 0]] [RE.rd k_Slot A1 cp2 a0.Slots]) => ?_))
  refine RL_cons (O_store (i := 2) (off := 0) (by exact wn0 rfl) (by rfl) (by rfl) H (by rfl) (vs := [.int .i64 0, .int .i64 0]) (by rfl) sz81 (by rfl) (by rfl) (by rfl) (fun w15 (H : Sep ok w w15 [.blk b5 76 [.slice A1 a0.Slots.length cp2], .blk b7 76 [.slice none 0 0], .blk b9 81 [.int .i64 0, .int .i64 0]] [RE.rd k_Slot A1 cp2 a0.Slots]) => ?_))
  refine RL_pure (by exact wn0 rfl) (by rfl) (by rfl) (x_assign (v := .int .i64 v12) (by rfl)) ?_
  refine RL_nil ?_
  refine W_ret ?_
  have H : Sep ok w w15 [.blk b5 76 [.slice A1 a0.Slots.length cp2], .blk b7 76 [.slice none 0 0], .blk b9 81 [.int .i64 0, .int .i64 0]] [RE.rd k_Slot A1 cp2 a0.Slots, RE.fr w.heap.size k_Slot none 0 ([])] := Sep.also H (re := RE.fr w.heap.size k_Slot none 0 ([])) (Rd.nil (by decide))
  obtain rfl := Option.some.inj hm
  exact ⟨[.agg #[.slice none 0 0], .agg #[.int .i64 0, .int .i64 0], .int .i64 v12], (.cellA (by rfl) ag76 (H.cells (i := 1) (by rfl)) (by rfl) (.cellA (by rfl) ag81 (H.cells (i := 2) (by rfl)) (by rfl) (.tmp (by rfl) rfl))), none, 0, rfl, (H.forgetAll).pick [1]⟩
 ·have hm := cond_f hb hm
  refine W_skip ?_
  refine W_seq ?_
  refine W_region ?_
  refine RL_pure (by exact wn0 rfl) (by rfl) (by rfl) (x_loadA (j := 0) (vs := [.slice A1 a0.Slots.length cp2]) ag76 (by rfl) (H.cells (i := 0) (by rfl)) (by rfl) (by rfl)) ?_
  obtain ⟨v18, hv17, hm⟩ := bind_some hm
  refine RL_cons (O_call (by exact wn0 rfl) (by rfl) (by rfl) (x_callL (by rfl) (args := [.agg #[.slice A1 a0.Slots.length cp2]]) (by rfl) (cf102 _ _)) (c102 (okS ok w [.blk b5 76 [.slice A1 a0.Slots.length cp2], .blk b7 76 [.slice none 0 0], .blk b9 81 [.int .i64 0, .int .i64 0]]) K w13 a0 A1 cp2 (H.rd (i := 0) (by rfl)) v18 hv17) ?_)
  rintro e w19 ⟨A20, cp21, cs22, rfl, H2⟩
  have H : Sep ok w w19 [.blk b5 76 [.slice A1 a0.Slots.length cp2], .blk b7 76 [.slice none 0 0], .blk b9 81 [.int .i64 0, .int .i64 0], .row (.slice A20 v18.Slots.length cp21) 96 k_Slot.sz v18.Slots.length cs22] [RE.rd k_Slot A1 cp2 a0.Slots, RE.chunks k_Slot cs22 v18.Slots] := H.call H2
  clear H2
  refine ⟨_, rfl, ?_⟩
  show RL _ _ _ _ _ _ _
  refine RL_cons (O_store (i := 0) (off := 0) (by exact wn0 rfl) (by rfl) (by rfl) H (by rfl) (vs := [.slice A20 v18.Slots.length cp21]) (by rfl) sz76 (by rfl) (by rfl) (by rfl) (fun w25 (H : Sep ok w w25 [.blk b5 76 [.slice A20 v18.Slots.length cp21], .blk b7 76 [.slice none 0 0], .blk b9 81 [.int .i64 0, .int .i64 0], .row (.slice A20 v18.Slots.length cp21) 96 k_Slot.sz v18.Slots.length cs22] [RE.rd k_Slot A1 cp2 a0.Slots, RE.chunks k_Slot cs22 v18.Slots]) => ?_))
  refine RL_nil ?_
  refine W_seq ?_
  refine W_region ?_
  refine RL_pure (by exact wn0 rfl) (by rfl) (by rfl) (x_makeFuncF (us := [.int .i64 1073741824]) (vs := []) (by rfl) (by rfl)) ?_
  refine RL_pure (by exact wn0 rfl) (by rfl) (by rfl) (x_assign (v := .func (.func 125) #[.int .i64 1073741824] #[]) (by rfl)) ?_
  refine RL_nil ?_
  refine W_seq ?_
  refine W_region ?_
  refine RL_pure (by exact wn0 rfl) (by rfl) (by rfl) (x_fieldAddr fo76_0 (by rfl)) ?_
  refine RL_pure (by exact wn0 rfl) (by rfl) (by rfl) (x_load (j := 0) (v := .slice A20 v18.Slots.length cp21) sc74 (by rfl) (H.cells (i := 0) (by rfl)) (by rfl)) ?_
  refine RL_pure (by exact wn0 rfl) (by rfl) (by rfl) (x_move (v := .func (.func 125) #[.int .i64 1073741824] #[]) (by rfl)) ?_
  obtain ⟨v27, hv26, hm⟩ := bind_some hm
  refine RL_cons (O_call (by exact wn0 rfl) (by rfl) (by rfl) (x_callL (by rfl) (args := [.slice A20 v18.Slots.length cp21, .func (.func 125) #[.int .i64 1073741824] #[]]) (by rfl) (cf126 _ _)) (c126 (fun (_ : Unit) wS => Sep ok w wS [.blk b5 76 [.slice A20 v18.Slots.length cp21], .blk b7 76 [.slice none 0 0], .blk b9 81 [.int .i64 0, .int .i64 0], .row (.slice A20 v18.Slots.length cp21) 96 k_Slot.sz v18.Slots.length cs22] [RE.rd k_Slot A1 cp2 a0.Slots, RE.chunks k_Slot cs22 v18.Slots]) (fun (_ : Unit) (x : S_Slot) => (m125 K 1073741824 x).map fun b => (b, ())) 125 [.int .i64 1073741824] [] v18.Slots A20 cp21 (fun _ wS (H : Sep ok w wS [.blk b5 76 [.slice A20 v18.Slots.length cp21], .blk b7 76 [.slice none 0 0], .blk b9 81 [.int .i64 0, .int .i64 0], .row (.slice A20 v18.Slots.length cp21) 96 k_Slot.sz v18.Slots.length cs22] [RE.rd k_Slot A1 cp2 a0.Slots, RE.chunks k_Slot cs22 v18.Slots]) => (H.rowRd (i := 3) (j := 1) (by rfl) (by rfl))) cf125 (fun _ wS x q (H : Sep ok w wS [.blk b5 76 [.slice A20 v18.Slots.length cp21], .blk b7 76 [.slice none 0 0], .blk b9 81 [.int .i64 0, .int .i64 0], .row (.slice A20 v18.Slots.length cp21) 96 k_Slot.sz v18.Slots.length cs22] [RE.rd k_Slot A1 cp2 a0.Slots, RE.chunks k_Slot cs22 v18.Slots]) hq => by obtain ⟨b, hb, rfl⟩ := Option.map_eq_some_iff.1 hq; exact (c125 okT K wS 1073741824 x  b hb).mono fun e w_ h => ⟨h.1, H.below h.2.base⟩) () w25 H v27 hv26) ?_)
  rintro e w28 ⟨rfl, H⟩
  have H : Sep ok w w28 [.blk b5 76 [.slice A20 v18.Slots.length cp21], .blk b7 76 [.slice none 0 0], .blk b9 81 [.int .i64 0, .int .i64 0], .row (.slice A20 v18.Slots.length cp21) 96 k_Slot.sz v18.Slots.length cs22] [RE.rd k_Slot A1 cp2 a0.Slots, RE.chunks k_Slot cs22 v18.Slots] := H
  refine ⟨_, rfl, ?_⟩
  show RL _ _ _ _ _ _ _
  refine RL_pure (by exact wn0 rfl) (by rfl) (by rfl) (x_assign (v := .int .i64 v27.1) (by rfl)) ?_
  refine RL_nil ?_
  refine W_join (fun r' w' => ∃ (l_row23_1 : (List S_Slot)), ∃ (y7_1 : Int), ∃ (A_row23_1 : Option Addr), ∃ (c_row23_1 : Nat), ∃ (cs_row23_1 : List Value), m94_j1 K l_row23_1 y7_1 = some res ∧ Agr [(1, .pointer (some ⟨b5, 0, none⟩)), (2, .pointer (some ⟨b7, 0, none⟩)), (3, .pointer (some ⟨b9, 0, none⟩)), (7, .int .i64 y7_1)] r' ∧ Sep ok w w' [.blk b5 76 [.slice A_row23_1 l_row23_1.length c_row23_1], .blk b7 76 [.slice none 0 0], .blk b9 81 [.int .i64 0, .int .i64 0], .row (.slice A_row23_1 l_row23_1.length c_row23_1) 96 k_Slot.sz l_row23_1.length cs_row23_1] [RE.rd k_Slot A1 cp2 a0.Slots, RE.chunks k_Slot cs_row23_1 l_row23_1]) ?_ ?_
  ·show W _ _ _ _ _ _
   refine W_block ?_
   refine W_seq ?_
   refine W_region ?_
   refine RL_pure (by exact wn0 rfl) (by rfl) (by rfl) (x_move (v := .int .i64 v27.1) (by rfl)) ?_
   refine RL_pure (by exact wn0 rfl) (by rfl) (by rfl) (x_geq (by rfl) (by rfl)) ?_
   refine RL_pure (by exact wn0 rfl) (by rfl) (by rfl) (x_assign (v := .bool (decide (0 ≤ v27.1))) (by rfl)) ?_
   refine RL_nil ?_
   refine W_cond (by rfl) (fun hb => ?_) (fun hb => ?_)
   ·have hm := cond_t hb hm
    refine W_draw [.free 0, .take 1, .free 2, .free 3, .take 4, .free 5, .free 6, .free 7, .take 8, .free 9, .free 10, .free 11, .tail 12] (fun wS => Sep ok w wS [.blk b5 76 [.slice A20 v18.Slots.length cp21], .blk b7 76 [.slice none 0 0], .blk b9 81 [.int .i64 0, .int .i64 0], .row (.slice A20 v18.Slots.length cp21) 96 k_Slot.sz v18.Slots.length cs22] [RE.rd k_Slot A1 cp2 a0.Slots, RE.chunks k_Slot cs22 v18.Slots]) [12] [0, 2, 3, 5, 6, 7, 9, 10, 11] mixed0 (by kernel_rfl) (by kernel_rfl) (by kernel_rfl) (by rfl) (by exact H.drew) ?_
    obtain ⟨w29, hW⟩ : ∃ W : World, W = { w28 with drawn := w28.drawn + 1 } := ⟨_, rfl⟩
    rw [← hW]
    have H : Sep ok w w29 [.blk b5 76 [.slice A20 v18.Slots.length cp21], .blk b7 76 [.slice none 0 0], .blk b9 81 [.int .i64 0, .int .i64 0], .row (.slice A20 v18.Slots.length cp21) 96 k_Slot.sz v18.Slots.length cs22] [RE.rd k_Slot A1 cp2 a0.Slots, RE.chunks k_Slot cs22 v18.Slots] := by rw [hW]; exact H.drew
    clear hW
    refine PR_free (by rfl) (by rfl) (by rfl) (by exact wn0 rfl) (fun wS => (x_fieldAddr fo76_0 (by rfl))) ?_
    refine PR_take (by rfl) (by rfl) (by rfl) (by exact wn0 rfl) (fun wS (H : Sep ok w wS [.blk b5 76 [.slice A20 v18.Slots.length cp21], .blk b7 76 [.slice none 0 0], .blk b9 81 [.int .i64 0, .int .i64 0], .row (.slice A20 v18.Slots.length cp21) 96 k_Slot.sz v18.Slots.length cs22] [RE.rd k_Slot A1 cp2 a0.Slots, RE.chunks k_Slot cs22 v18.Slots]) => (x_load (j := 0) (v := .slice A20 v18.Slots.length cp21) sc74 (by rfl) (H.cells (i := 0) (by rfl)) (by rfl))) ?_
    refine PR_free (by rfl) (by rfl) (by rfl) (by exact wn0 rfl) (fun wS => (x_move (v := .int .i64 v27.1) (by rfl))) ?_
    refine PR_free (by rfl) (by rfl) (by rfl) (by exact wn0 rfl) (fun wS => (x_fieldAddr fo76_0 (by rfl))) ?_
    refine PR_take (by rfl) (by rfl) (by rfl) (by exact wn0 rfl) (fun wS (H : Sep ok w wS [.blk b5 76 [.slice A20 v18.Slots.length cp21], .blk b7 76 [.slice none 0 0], .blk b9 81 [.int .i64 0, .int .i64 0], .row (.slice A20 v18.Slots.length cp21) 96 k_Slot.sz v18.Slots.length cs22] [RE.rd k_Slot A1 cp2 a0.Slots, RE.chunks k_Slot cs22 v18.Slots]) => (x_load (j := 0) (v := .slice A20 v18.Slots.length cp21) sc74 (by rfl) (H.cells (i := 0) (by rfl)) (by rfl))) ?_
    refine PR_free (by rfl) (by rfl) (by rfl) (by exact wn0 rfl) (fun wS => (x_move (v := .int .i64 v27.1) (by rfl))) ?_
    obtain ⟨el30, h31, h32, he33, hm⟩ := idx_some hm
    obtain ⟨g35, _, hA34, _, _⟩ := H.rowIdx (i := 3) (j := 1) (by rfl) (by rfl) he33
    refine PR_free (by rfl) (by rfl) (by rfl) (by exact wn0 rfl) (fun wS => (x_indexAddr sl74 sz96 (by rfl) (by rfl) hA34 h31 h32)) ?_
    refine PR_free (by rfl) (by rfl) (by rfl) (by exact wn0 rfl) (fun wS => (x_fieldAddr fo96_0 (by rfl))) ?_
    refine PR_take (by rfl) (by rfl) (by rfl) (by exact wn0 rfl) (fun wS (H : Sep ok w wS [.blk b5 76 [.slice A20 v18.Slots.length cp21], .blk b7 76 [.slice none 0 0], .blk b9 81 [.int .i64 0, .int .i64 0], .row (.slice A20 v18.Slots.length cp21) 96 k_Slot.sz v18.Slots.length cs22] [RE.rd k_Slot A1 cp2 a0.Slots, RE.chunks k_Slot cs22 v18.Slots]) => (x_load (j := 0) (v := .int .i64 el30.Gen) sc3 (by rfl) (H.rowFlatAt (n := 2) (i := 3) (j := 1) (by rfl) (by rfl) hA34 he33) (by rfl))) ?_
    obtain ⟨x37, ex37, qx37, ux37, hm⟩ := ck_some hm
    refine PR_free (by rfl) (by rfl) (by rfl) (by exact wn0 rfl) (fun wS => (x_add (by rfl) (by rfl) ux37)) ?_
    refine PR_free (by rfl) (by rfl) (by rfl) (by exact wn0 rfl) (fun wS => (x_build (vs := [(0, .int .i64 x37), (1, .bool true)]) (cs := [.int .i64 x37, .bool true]) (by rfl) (by kernel_rfl))) ?_
    obtain ⟨el38, h39, h40, he41, hm⟩ := idx_some hm
    obtain ⟨g43, _, hA42, _, _⟩ := H.rowIdx (i := 3) (j := 1) (by rfl) (by rfl) he41
    refine PR_free (by rfl) (by rfl) (by rfl) (by exact wn0 rfl) (fun wS => (x_indexAddr sl74 sz96 (by rfl) (by rfl) hA42 h39 h40)) ?_
    obtain ⟨l47, hl48, hm⟩ := lete_some hm
    refine PR_tail (by rfl) (O_storeRow (D := k_Slot) (i := 3) (j := 1) (off := 0) (m := v27.1) (a := el38) (b := (⟨x37, true⟩ : S_Slot)) (vs := [.int .i64 x37, .bool true]) (by exact wn0 rfl) H (by rfl) (by rfl) hA42 (by rfl) (by rfl) he41 (by rfl) sz96 (by rfl) (by rfl) (by intro ce hce; obtain rfl := hce; rfl) hl48 (fun w45 cs46 (H : Sep ok w w45 [.blk b5 76 [.slice A20 v18.Slots.length cp21], .blk b7 76 [.slice none 0 0], .blk b9 81 [.int .i64 0, .int .i64 0], .row (.slice A20 l47.length cp21) 96 k_Slot.sz l47.length cs46] [RE.rd k_Slot A1 cp2 a0.Slots, RE.chunks k_Slot cs46 l47]) => ?_))
    refine PR_nil ?_
    have hn49 : v18.Slots.length = l47.length := by rw [← hl48]; exact (List.length_set ..).symm
    have H : Sep ok w w45 [.blk b5 76 [.slice A20 l47.length cp21], .blk b7 76 [.slice none 0 0], .blk b9 81 [.int .i64 0, .int .i64 0], .row (.slice A20 l47.length cp21) 96 k_Slot.sz l47.length cs46] [RE.rd k_Slot A1 cp2 a0.Slots, RE.chunks k_Slot cs46 l47] := by (try rw [hn49] at H); exact H
    exact ⟨l47, v27.1, A20, cp21, cs46, hm, ⟨rfl, rfl, rfl, rfl, trivial⟩, H⟩
   ·have hm := cond_f hb hm
    refine W_seq ?_
    refine W_region ?_
    refine RL_pure (by exact wn0 rfl) (by rfl) (by rfl) (x_fieldAddr fo76_0 (by rfl)) ?_
    refine RL_pure (by exact wn0 rfl) (by rfl) (by rfl) (x_load (j := 0) (v := .slice A20 v18.Slots.length cp21) sc74 (by rfl) (H.cells (i := 0) (by rfl)) (by rfl)) ?_
    refine RL_pure (by exact wn0 rfl) (by rfl) (by rfl) (x_len sl74 (by rfl)) ?_
    refine RL_pure (by exact wn0 rfl) (by rfl) (by rfl) (x_eql (by rfl) (by rfl)) ?_
    refine RL_pure (by exact wn0 rfl) (by rfl) (by rfl) (x_assign (v := .bool ((v18.Slots.length : Int) == 128)) (by rfl)) ?_
    refine RL_nil ?_
    refine W_cond (by rfl) (fun hb => ?_) (fun hb => ?_)
    ·have hm := cond_t hb hm
     refine W_seq ?_
     refine W_region ?_
     refine RL_pure (by exact wn0 rfl) (by rfl) (by rfl) (x_build (vs := []) (cs := [.slice none 0 0]) (by rfl) (by kernel_rfl)) ?_
     refine RL_pure (by exact wn0 rfl) (by rfl) (by rfl) (x_build (vs := []) (cs := [.int .i64 0, .int .i64 0]) (by rfl) (by kernel_rfl)) ?_
     refine RL_cons (O_store (i := 1) (off := 0) (by exact wn0 rfl) (by rfl) (by rfl) H (by rfl) (vs := [.slice none 0 0]) (by rfl) sz76 (by rfl) (by rfl) (by rfl) (fun w50 (H : Sep ok w w50 [.blk b5 76 [.slice A20 v18.Slots.length cp21], .blk b7 76 [.slice none 0 0], .blk b9 81 [.int .i64 0, .int .i64 0], .row (.slice A20 v18.Slots.length cp21) 96 k_Slot.sz v18.Slots.length cs22] [RE.rd k_Slot A1 cp2 a0.Slots, RE.chunks k_Slot cs22 v18.Slots]) => ?_))
     refine RL_cons (O_store (i := 2) (off := 0) (by exact wn0 rfl) (by rfl) (by rfl) H (by rfl) (vs := [.int .i64 0, .int .i64 0]) (by rfl) sz81 (by rfl) (by rfl) (by rfl) (fun w51 (H : Sep ok w w51 [.blk b5 76 [.slice A20 v18.Slots.length cp21], .blk b7 76 [.slice none 0 0], .blk b9 81 [.int .i64 0, .int .i64 0], .row (.slice A20 v18.Slots.length cp21) 96 k_Slot.sz v18.Slots.length cs22] [RE.rd k_Slot A1 cp2 a0.Slots, RE.chunks k_Slot cs22 v18.Slots]) => ?_))
     refine RL_pure (by exact wn0 rfl) (by rfl) (by rfl) (x_assign (v := .int .i64 9) (by rfl)) ?_
     refine RL_nil ?_
     refine W_ret ?_
     have H : Sep ok w w51 [.blk b5 76 [.slice A20 v18.Slots.length cp21], .blk b7 76 [.slice none 0 0], .blk b9 81 [.int .i64 0, .int .i64 0], .row (.slice A20 v18.Slots.length cp21) 96 k_Slot.sz v18.Slots.length cs22] [RE.rd k_Slot A1 cp2 a0.Slots, RE.chunks k_Slot cs22 v18.Slots, RE.fr w.heap.size k_Slot none 0 ([])] := Sep.also H (re := RE.fr w.heap.size k_Slot none 0 ([])) (Rd.nil (by decide))
     obtain rfl := Option.some.inj hm
     exact ⟨[.agg #[.slice none 0 0], .agg #[.int .i64 0, .int .i64 0], .int .i64 9], (.cellA (by rfl) ag76 (H.cells (i := 1) (by rfl)) (by rfl) (.cellA (by rfl) ag81 (H.cells (i := 2) (by rfl)) (by rfl) (.tmp (by rfl) rfl))), none, 0, rfl, (H.forgetAll).pick [2]⟩
    ·have hm := cond_f hb hm
     refine W_seq ?_
     refine W_region ?_
     refine RL_pure (by exact wn0 rfl) (by rfl) (by rfl) (x_fieldAddr fo76_0 (by rfl)) ?_
     refine RL_pure (by exact wn0 rfl) (by rfl) (by rfl) (x_load (j := 0) (v := .slice A20 v18.Slots.length cp21) sc74 (by rfl) (H.cells (i := 0) (by rfl)) (by rfl)) ?_
     refine RL_pure (by exact wn0 rfl) (by rfl) (by rfl) (x_len sl74 (by rfl)) ?_
     refine RL_pure (by exact wn0 rfl) (by rfl) (by rfl) (x_assign (v := .int .i64 (v18.Slots.length : Int)) (by rfl)) ?_
     refine RL_nil ?_
     refine W_region ?_
     refine RL_pure (by exact wn0 rfl) (by rfl) (by rfl) (x_fieldAddr fo76_0 (by rfl)) ?_
     refine RL_pure (by exact wn0 rfl) (by rfl) (by rfl) (x_load (j := 0) (v := .slice A20 v18.Slots.length cp21) sc74 (by rfl) (H.cells (i := 0) (by rfl)) (by rfl)) ?_
     refine RL_pure (by exact wn0 rfl) (by rfl) (by rfl) (x_build (vs := [(0, .int .i64 1), (1, .bool true)]) (cs := [.int .i64 1, .bool true]) (by rfl) (by kernel_rfl)) ?_
     refine RL_cons (O_buildSlice (vs := [(0, .agg #[.int .i64 1, .bool true])]) (cs := [.int .i64 1, .bool true]) (by exact wn0 rfl) (by rfl) sl74 sz96 ze96 (by rfl) (by rfl) (by rfl) (by kernel_rfl) H (fun w54 b53 (H : Sep ok w w54 [.blk b5 76 [.slice A20 v18.Slots.length cp21], .blk b7 76 [.slice none 0 0], .blk b9 81 [.int .i64 0, .int .i64 0], .row (.slice A20 v18.Slots.length cp21) 96 k_Slot.sz v18.Slots.length cs22, .blk b53 96 [.int .i64 1, .bool true]] [RE.rd k_Slot A1 cp2 a0.Slots, RE.chunks k_Slot cs22 v18.Slots]) => ?_))
     obtain ⟨l59, hl60, hb61, hm⟩ := apd_some hm
     refine RL_cons (O_append (D := k_Slot) (i := 3) (j := 1) (o := 0) (y := (⟨1, true⟩ : S_Slot)) (by exact wn0 rfl) (by rfl) (by rfl) (by rfl) H (by rfl) (by rfl) (H.cells (i := 4) (by rfl)) rfl hl60 sl74 sz96 by96 ze96 (by rfl) (by rfl) hb61 (by rfl) (fun w55 A56 cp57 cs58 (H : Sep ok w w55 [.blk b5 76 [.slice A20 v18.Slots.length cp21], .blk b7 76 [.slice none 0 0], .blk b9 81 [.int .i64 0, .int .i64 0], .row (.slice A56 l59.length cp57) 96 k_Slot.sz l59.length cs58, .blk b53 96 [.int .i64 1, .bool true]] [RE.rd k_Slot A1 cp2 a0.Slots, RE.chunks k_Slot cs58 l59]) => ?_))
     refine RL_pure (by exact wn0 rfl) (by rfl) (by rfl) (x_fieldAddr fo76_0 (by rfl)) ?_
     refine RL_cons (O_store (i := 0) (off := 0) (by exact wn0 rfl) (by rfl) (by rfl) H (by rfl) (vs := [.slice A56 l59.length cp57]) (by rfl) sz74 (by rfl) (by rfl) (by rfl) (fun w62 (H : Sep ok w w62 [.blk b5 76 [.slice A56 l59.length cp57], .blk b7 76 [.slice none 0 0], .blk b9 81 [.int .i64 0, .int .i64 0], .row (.slice A56 l59.length cp57) 96 k_Slot.sz l59.length cs58, .blk b53 96 [.int .i64 1, .bool true]] [RE.rd k_Slot A1 cp2 a0.Slots, RE.chunks k_Slot cs58 l59]) => ?_))
     refine RL_nil ?_
     exact ⟨l59, (v18.Slots.length : Int), A56, cp57, cs58, hm, ⟨rfl, rfl, rfl, rfl, trivial⟩, (H).takeL 4⟩
  ·rintro r' w' ⟨l_row23_1, y7_1, A_row23_1, c_row23_1, cs_row23_1, hm, hA, H⟩
   obtain ⟨r63, rfl⟩ := regen _ hA; clear hA
   obtain ⟨w64, rfl⟩ : ∃ W : World, W = w' := ⟨_, rfl⟩
   unfold m94_j1 at hm
   refine W_seq ?_
   refine W_draw [.take 0, .free 1, .free 2, .take 3, .free 4, .free 5, .free 6, .take 7, .free 8, .run 9, .tail 10, .free 11] (fun wS => Sep ok w wS [.blk b5 76 [.slice A_row23_1 l_row23_1.length c_row23_1], .hole, .blk b9 81 [.int .i64 0, .int .i64 0], .row (.slice A_row23_1 l_row23_1.length c_row23_1) 96 k_Slot.sz l_row23_1.length cs_row23_1] [RE.rd k_Slot A1 cp2 a0.Slots, RE.chunks k_Slot cs_row23_1 l_row23_1]) [10] [1, 2, 4, 5, 6, 8, 11] mixed0 (by kernel_rfl) (by kernel_rfl) (by kernel_rfl) (by rfl) (by exact (Sep.holeL H.drew 1)) ?_
   obtain ⟨w65, hW⟩ : ∃ W : World, W = { w64 with drawn := w64.drawn + 1 } := ⟨_, rfl⟩
   rw [← hW]
   have H : Sep ok w w65 [.blk b5 76 [.slice A_row23_1 l_row23_1.length c_row23_1], .blk b7 76 [.slice none 0 0], .blk b9 81 [.int .i64 0, .int .i64 0], .row (.slice A_row23_1 l_row23_1.length c_row23_1) 96 k_Slot.sz l_row23_1.length cs_row23_1] [RE.rd k_Slot A1 cp2 a0.Slots, RE.chunks k_Slot cs_row23_1 l_row23_1] := by rw [hW]; exact H.drew
   clear hW
   refine PR_take (by rfl) (by rfl) (by rfl) (by exact wn0 rfl) (fun wS (H : Sep ok w wS [.blk b5 76 [.slice A_row23_1 l_row23_1.length c_row23_1], .hole, .blk b9 81 [.int .i64 0, .int .i64 0], .row (.slice A_row23_1 l_row23_1.length c_row23_1) 96 k_Slot.sz l_row23_1.length cs_row23_1] [RE.rd k_Slot A1 cp2 a0.Slots, RE.chunks k_Slot cs_row23_1 l_row23_1]) => (x_loadA (j := 0) (vs := [.slice A_row23_1 l_row23_1.length c_row23_1]) ag76 (by rfl) (H.cells (i := 0) (by rfl)) (by rfl) (by rfl))) ?_
   refine PR_free (by rfl) (by rfl) (by rfl) (by exact wn0 rfl) (fun wS => (x_move (v := .int .i64 y7_1) (by rfl))) ?_
   refine PR_free (by rfl) (by rfl) (by rfl) (by exact wn0 rfl) (fun wS => (x_fieldAddr fo76_0 (by rfl))) ?_
   refine PR_take (by rfl) (by rfl) (by rfl) (by exact wn0 rfl) (fun wS (H : Sep ok w wS [.blk b5 76 [.slice A_row23_1 l_row23_1.length c_row23_1], .hole, .blk b9 81 [.int .i64 0, .int .i64 0], .row (.slice A_row23_1 l_row23_1.length c_row23_1) 96 k_Slot.sz l_row23_1.length cs_row23_1] [RE.rd k_Slot A1 cp2 a0.Slots, RE.chunks k_Slot cs_row23_1 l_row23_1]) => (x_load (j := 0) (v := .slice A_row23_1 l_row23_1.length c_row23_1) sc74 (by rfl) (H.cells (i := 0) (by rfl)) (by rfl))) ?_
   refine PR_free (by rfl) (by rfl) (by rfl) (by exact wn0 rfl) (fun wS => (x_move (v := .int .i64 y7_1) (by rfl))) ?_
   obtain ⟨el66, h67, h68, he69, hm⟩ := idx_some hm
   obtain ⟨g71, _, hA70, _, _⟩ := H.rowIdx (i := 3) (j := 1) (by rfl) (by rfl) he69
   refine PR_free (by rfl) (by rfl) (by rfl) (by exact wn0 rfl) (fun wS => (x_indexAddr sl74 sz96 (by rfl) (by rfl) hA70 h67 h68)) ?_
   refine PR_free (by rfl) (by rfl) (by rfl) (by exact wn0 rfl) (fun wS => (x_fieldAddr fo96_0 (by rfl))) ?_
   refine PR_take (by rfl) (by rfl) (by rfl) (by exact wn0 rfl) (fun wS (H : Sep ok w wS [.blk b5 76 [.slice A_row23_1 l_row23_1.length c_row23_1], .hole, .blk b9 81 [.int .i64 0, .int .i64 0], .row (.slice A_row23_1 l_row23_1.length c_row23_1) 96 k_Slot.sz l_row23_1.length cs_row23_1] [RE.rd k_Slot A1 cp2 a0.Slots, RE.chunks k_Slot cs_row23_1 l_row23_1]) => (x_load (j := 0) (v := .int .i64 el66.Gen) sc3 (by rfl) (H.rowFlatAt (n := 2) (i := 3) (j := 1) (by rfl) (by rfl) hA70 he69) (by rfl))) ?_
   refine PR_free (by rfl) (by rfl) (by rfl) (by exact wn0 rfl) (fun wS => (x_build (vs := [(0, .int .i64 y7_1), (1, .int .i64 el66.Gen)]) (cs := [.int .i64 y7_1, .int .i64 el66.Gen]) (by rfl) (by kernel_rfl))) ?_
   refine PR_run (by rfl) (O_store (i := 1) (off := 0) (by exact wn0 rfl) (by rfl) (by rfl) H (by rfl) (vs := [.slice A_row23_1 l_row23_1.length c_row23_1]) (by rfl) sz76 (by rfl) (by rfl) (by rfl) (fun w73 (H : Sep ok w w73 [.blk b5 76 [.slice A_row23_1 l_row23_1.length c_row23_1], .blk b7 76 [.slice A_row23_1 l_row23_1.length c_row23_1], .blk b9 81 [.int .i64 0, .int .i64 0], .row (.slice A_row23_1 l_row23_1.length c_row23_1) 96 k_Slot.sz l_row23_1.length cs_row23_1] [RE.rd k_Slot A1 cp2 a0.Slots, RE.chunks k_Slot cs_row23_1 l_row23_1]) => ⟨(Sep.holeL H 1), ?_⟩))
   refine PR_tail (by rfl) (O_store (i := 2) (off := 0) (by exact wn0 rfl) (by rfl) (by rfl) H (by rfl) (vs := [.int .i64 y7_1, .int .i64 el66.Gen]) (by rfl) sz81 (by rfl) (by rfl) (by rfl) (fun w74 (H : Sep ok w w74 [.blk b5 76 [.slice A_row23_1 l_row23_1.length c_row23_1], .blk b7 76 [.slice A_row23_1 l_row23_1.length c_row23_1], .blk b9 81 [.int .i64 y7_1, .int .i64 el66.Gen], .row (.slice A_row23_1 l_row23_1.length c_row23_1) 96 k_Slot.sz l_row23_1.length cs_row23_1] [RE.rd k_Slot A1 cp2 a0.Slots, RE.chunks k_Slot cs_row23_1 l_row23_1]) => ?_))
   refine PR_free (by rfl) (by rfl) (by rfl) (by exact wn0 rfl) (fun wS => (x_assign (v := .int .i64 0) (by rfl))) ?_
   refine PR_nil ?_
   refine W_ret ?_
   have H : Sep ok w w74 [.blk b5 76 [.slice A_row23_1 l_row23_1.length c_row23_1], .blk b7 76 [.slice A_row23_1 l_row23_1.length c_row23_1], .blk b9 81 [.int .i64 y7_1, .int .i64 el66.Gen], .hole] [RE.rd k_Slot A1 cp2 a0.Slots, RE.fr w.heap.size k_Slot A_row23_1 c_row23_1 l_row23_1] := H.frozenF hno (fun _ _ _ _ _ _ h => h) (i := 3) (j := 1) (by rfl) (by rfl)
   obtain rfl := Option.some.inj hm
   exact ⟨[.agg #[.slice A_row23_1 l_row23_1.length c_row23_1], .agg #[.int .i64 y7_1, .int .i64 el66.Gen], .int .i64 0], (.cellA (by rfl) ag76 (H.cells (i := 1) (by rfl)) (by rfl) (.cellA (by rfl) ag81 (H.cells (i := 2) (by rfl)) (by rfl) (.tmp (by rfl) rfl))), A_row23_1, c_row23_1, rfl, (H.forgetAll).pick [1]⟩
end Go.Proofs.YtobkigllalbkiaaV.M

/- A plain Lean function that answers as the Go function does (none: not told), and the proof that a call answers so. Written by program. -/
set_option linter.unusedVariables false
namespace Go.Proofs.YtobkigllalbkiaaV.M
open Go.RowKit Go.Proofs.YtobkigllalbkiaaV
/-- Make, behind its call of Twin -/
def tl45 (K : Nat) (a0 : S_Graph) (v23 : S_Arena × S_Handle × Int) : Option (S_Graph × S_Handle × Int) :=
 (m53 K a0).bind fun v => if v23.1.Slots.length * 24 ≤ 140737488355328 then some ((⟨v23.1, v.Kids ++ List.replicate (v23.1.Slots.length - v.Kids.length) []⟩ : S_Graph), v23.2.1, 0) else none
theorem pad_more {α : Type} {l : List (List α)} {v : List (List α)} {n : Nat} (h : l = v ++ List.replicate (l.length - v.length) []) (hv : v.length ≤ l.length) : l ++ [[]] = v ++ List.replicate ((l ++ [[]]).length - v.length) [] := by
 have e : (l ++ [[]]).length - v.length = (l.length - v.length) + 1 := by simp; omega
 rw [e, List.replicate_succ', ← List.append_assoc, ← h]
/-- diorama/nodes.Make -/
def m45 (K : Nat) (a0 : S_Graph) : Option (S_Graph × S_Handle × Int) :=
 ((m79 K a0 ([])).bind fun v16 => (bif (v16 != 0) then some ((⟨(⟨[]⟩ : S_Arena), []⟩ : S_Graph), (⟨0, 0⟩ : S_Handle), v16) else ((m94 K a0.Arena).bind fun v23 => (bif (v23.2.2 != 0) then some ((⟨(⟨[]⟩ : S_Arena), []⟩ : S_Graph), (⟨0, 0⟩ : S_Handle), v23.2.2) else (tl45 K a0 v23)))))
set_option maxRecDepth 100000 in
set_option maxHeartbeats 4000000 in
theorem c45n (ok : Okp) (hno : ∀ k, ¬ ok.wr k) (K : Nat) (w : World) (a0 : S_Graph) (A1 : Option Addr) (cp2 : Nat) (A5 : Option Addr) (cp6 : Nat) (hR3 : Rd k_Slot w ok A1 cp2 a0.Arena.Slots) (hR7 : Rd (Kd.slice k_Handle) w ok A5 cp6 a0.Kids) (res : S_Graph × S_Handle × Int) (hm : m45 K a0 = some res) :
  Calls Try.prog 45 #[.agg #[.slice A1 a0.Arena.Slots.length cp2, .slice A5 a0.Kids.length cp6]] w (fun e w' => ∃ (A0_ : Option Addr) (c0_ : Nat), ∃ (A1_ : Option Addr) (c1_ : Nat), e = .returned (tup [.agg #[.slice A0_ res.1.Arena.Slots.length c0_, .slice A1_ res.1.Kids.length c1_], .agg #[.int .i64 res.2.1.Slot, .int .i64 res.2.1.Gen], .int .i64 res.2.2]) ∧ Sep ok w w' [] [RE.fr w.heap.size k_Slot A0_ c0_ res.1.Arena.Slots, RE.fr w.heap.size (Kd.slice k_Handle) A1_ c1_ res.1.Kids]) := by
 refine calls_W (args := [.agg #[.slice A1 a0.Arena.Slots.length cp2, .slice A5 a0.Kids.length cp6]]) Try.func45 rfl Try.ntmps45 Try.results45 rfl fun r hr => ?_
 obtain ⟨r1, rfl⟩ := regen (r := r) [(0, .agg #[.slice A1 a0.Arena.Slots.length cp2, .slice A5 a0.Kids.length cp6])] ⟨hr 0 _ rfl, trivial⟩
 have H : Sep ok w w [] [RE.rd k_Slot A1 cp2 a0.Arena.Slots, RE.rd (Kd.slice k_Handle) A5 cp6 a0.Kids] := Sep.arg (Sep.arg (Sep.start ok w) (re := RE.rd k_Slot A1 cp2 a0.Arena.Slots) rfl rfl hR3) (re := RE.rd (Kd.slice k_Handle) A5 cp6 a0.Kids) rfl rfl hR7
 unfold m45 at hm
 refine W_seq ?_
 refine W_region ?_
 refine RL_cons (O_box (by exact wn0 rfl) (by rfl) (by rfl) (by rfl) H (fun w10 b9 (H : Sep ok w w10 [.blk b9 79 [.slice A1 a0.Arena.Slots.length cp2, .slice A5 a0.Kids.length cp6]] [RE.rd k_Slot A1 cp2 a0.Arena.Slots, RE.rd (Kd.slice k_Handle) A5 cp6 a0.Kids]) => ?_))
 refine RL_cons (O_alloc (by exact wn0 rfl) (by rfl) ze79 (by rfl) H (fun w12 b11 (H : Sep ok w w12 [.blk b9 79 [.slice A1 a0.Arena.Slots.length cp2, .slice A5 a0.Kids.length cp6], .blk b11 79 [.slice none 0 0, .slice none 0 0]] [RE.rd k_Slot A1 cp2 a0.Arena.Slots, RE.rd (Kd.slice k_Handle) A5 cp6 a0.Kids]) => ?_))
 refine RL_cons (O_alloc (by exact wn0 rfl) (by rfl) ze81 (by rfl) H (fun w14 b13 (H : Sep ok w w14 [.blk b9 79 [.slice A1 a0.Arena.Slots.length cp2, .slice A5 a0.Kids.length cp6], .blk b11 79 [.slice none 0 0, .slice none 0 0], .blk b13 81 [.int .i64 0, .int .i64 0]] [RE.rd k_Slot A1 cp2 a0.Arena.Slots, RE.rd (Kd.slice k_Handle) A5 cp6 a0.Kids]) => ?_))
 refine RL_pure (by exact wn0 rfl) (by rfl) (by rfl) (x_assign (v := .int .i64 0) (by rfl)) ?_
 refine RL_nil ?_
 refine W_seq ?_
 refine W_seq ?_
 refine W_region ?_
 refine RL_pure (by exact wn0 rfl) (by rfl) (by rfl) (x_loadA (j := 0) (vs := [.slice A1 a0.Arena.Slots.length cp2, .slice A5 a0.Kids.length cp6]) ag79 (by rfl) (H.cells (i := 0) (by rfl)) (by rfl) (by rfl)) ?_
 obtain ⟨v16, hv15, hm⟩ := bind_some hm
 refine RL_cons (O_call (by exact wn0 rfl) (by rfl) (by rfl) (x_callL (by rfl) (args := [.agg #[.slice A1 a0.Arena.Slots.length cp2, .slice A5 a0.Kids.length cp6], .slice none 0 0]) (by rfl) (cf79 _ _)) (c79 okT K w14 a0 A1 cp2 A5 cp6 ([]) none 0 (H.rd (i := 0) (by rfl)).any (H.rd (i := 1) (by rfl)).any (Rd.nil (by decide)) v16 hv15) ?_)
 rintro e w17 ⟨rfl, H2⟩
 have H : Sep ok w w17 [.blk b9 79 [.slice A1 a0.Arena.Slots.length cp2, .slice A5 a0.Kids.length cp6], .blk b11 79 [.slice none 0 0, .slice none 0 0], .blk b13 81 [.int .i64 0, .int .i64 0]] [RE.rd k_Slot A1 cp2 a0.Arena.Slots, RE.rd (Kd.slice k_Handle) A5 cp6 a0.Kids] := H.below H2.base
 clear H2
 refine ⟨_, rfl, ?_⟩
 show RL _ _ _ _ _ _ _
 refine RL_pure (by exact wn0 rfl) (by rfl) (by rfl) (x_assign (v := .int .i64 v16) (by rfl)) ?_
 refine RL_nil ?_
 refine W_seq ?_
 refine W_region ?_
 refine RL_pure (by exact wn0 rfl) (by rfl) (by rfl) (x_move (v := .int .i64 v16) (by rfl)) ?_
 refine RL_pure (by exact wn0 rfl) (by rfl) (by rfl) (x_neq (by rfl) (by rfl)) ?_
 refine RL_nil ?_
 refine W_cond (by rfl) (fun hb => ?_) (fun hb => ?_)
 ·have hm := cond_t hb hm
  refine W_seq ?_
  refine W_region ?_
  refine RL_pure (by exact wn0 rfl) (by rfl) (by rfl) (x_build (vs := []) (cs := [.slice none 0 0, .slice none 0 0]) (by rfl) (by kernel_rfl)) ?_
  refine RL_pure (by exact wn0 rfl) (by rfl) (by rfl) (x_build (vs := []) (cs := [.int .i64 0, .int .i64 0]) (by rfl) (by kernel_rfl)) ?_
  refine RL_pure (by exact wn0 rfl) (by rfl) (by rfl) (x_move (v := .int .i64 v16) (by rfl)) ?_
  refine RL_cons (O_store (i := 1) (off := 0) (by exact wn0 rfl) (by rfl) (by rfl) H (by rfl) (vs := [.slice none 0 0, .slice none 0 0]) (by rfl) sz79 (by rfl) (by rfl) (by rfl) (fun w18 (H : Sep ok w w18 [.blk b9 79 [.slice A1 a0.Arena.Slots.length cp2, .slice A5 a0.Kids.length cp6], .blk b11 79 [.slice none 0 0, .slice none 0 0], .blk b13 81 [.int .i64 0, .int .i64 0]] [RE.rd k_Slot A1 cp2 a0.Arena.Slots, RE.rd (Kd.slice k_Handle) A5 cp6 a0.Kids]) => ?_))
  refine RL_cons (O_store (i := 2) (off := 0) (by exact wn0 rfl) (by rfl) (by rfl) H (by rfl) (vs := [.int .i64 0, .int .i64 0]) (by rfl) sz81 (by rfl) (by rfl) (by rfl) (fun w19 (H : Sep ok w w19 [.blk b9 79 [.slice A1 a0.Arena.Slots.length cp2, .slice A5 a0.Kids.length cp6], .blk b11 79 [.slice none 0 0, .slice none 0 0], .blk b13 81 [.int .i64 0, .int .i64 0]] [RE.rd k_Slot A1 cp2 a0.Arena.Slots, RE.rd (Kd.slice k_Handle) A5 cp6 a0.Kids]) => ?_))
  refine RL_pure (by exact wn0 rfl) (by rfl) (by rfl) (x_assign (v := .int .i64 v16) (by rfl)) ?_
  refine RL_nil ?_
  refine W_ret ?_
  have H : Sep ok w w19 [.blk b9 79 [.slice A1 a0.Arena.Slots.length cp2, .slice A5 a0.Kids.length cp6], .blk b11 79 [.slice none 0 0, .slice none 0 0], .blk b13 81 [.int .i64 0, .int .i64 0]] [RE.rd k_Slot A1 cp2 a0.Arena.Slots, RE.rd (Kd.slice k_Handle) A5 cp6 a0.Kids, RE.fr w.heap.size k_Slot none 0 ([])] := Sep.also H (re := RE.fr w.heap.size k_Slot none 0 ([])) (Rd.nil (by decide))
  have H : Sep ok w w19 [.blk b9 79 [.slice A1 a0.Arena.Slots.length cp2, .slice A5 a0.Kids.length cp6], .blk b11 79 [.slice none 0 0, .slice none 0 0], .blk b13 81 [.int .i64 0, .int .i64 0]] [RE.rd k_Slot A1 cp2 a0.Arena.Slots, RE.rd (Kd.slice k_Handle) A5 cp6 a0.Kids, RE.fr w.heap.size k_Slot none 0 ([]), RE.fr w.heap.size (Kd.slice k_Handle) none 0 ([])] := Sep.also H (re := RE.fr w.heap.size (Kd.slice k_Handle) none 0 ([])) (Rd.nil (by decide))
  obtain rfl := Option.some.inj hm
  exact ⟨[.agg #[.slice none 0 0, .slice none 0 0], .agg #[.int .i64 0, .int .i64 0], .int .i64 v16], (.cellA (by rfl) ag79 (H.cells (i := 1) (by rfl)) (by rfl) (.cellA (by rfl) ag81 (H.cells (i := 2) (by rfl)) (by rfl) (.tmp (by rfl) rfl))), none, 0, none, 0, rfl, (H.forgetAll).pick [2, 3]⟩
 ·have hm := cond_f hb hm
  refine W_skip ?_
  refine W_seq ?_
  refine W_region ?_
  refine RL_pure (by exact wn0 rfl) (by rfl) (by rfl) (x_fieldAddr fo79_0 (by rfl)) ?_
  refine RL_pure (by exact wn0 rfl) (by rfl) (by rfl) (x_loadA (j := 0) (vs := [.slice A1 a0.Arena.Slots.length cp2]) ag76 (by rfl) (H.cells (i := 0) (by rfl)) (by rfl) (by rfl)) ?_
  obtain ⟨v23, hv22, hm⟩ := bind_some hm
  have H : Sep ok w w17 [.blk b9 79 [.slice A1 a0.Arena.Slots.length cp2, .slice A5 a0.Kids.length cp6], .blk b11 79 [.slice none 0 0, .slice none 0 0], .blk b13 81 [.int .i64 0, .int .i64 0]] [RE.rd k_Slot A1 cp2 a0.Arena.Slots, RE.rd (Kd.slice k_Handle) A5 cp6 a0.Kids, RE.lt w17.heap.size k_Slot A1 cp2 a0.Arena.Slots, RE.lt w17.heap.size (Kd.slice k_Handle) A5 cp6 a0.Kids] := ((H.alsoLt (i := 0) (by rfl)).alsoLt (i := 1) (by rfl))
  have hm0 : w.heap.size ≤ w17.heap.size := H.le
  refine RL_cons (O_call (by exact wn0 rfl) (by rfl) (by rfl) (x_callL (by rfl) (args := [.agg #[.slice A1 a0.Arena.Slots.length cp2]]) (by rfl) (cf94 _ _)) (c94n (okS ok w [.blk b9 79 [.slice A1 a0.Arena.Slots.length cp2, .slice A5 a0.Kids.length cp6], .blk b11 79 [.slice none 0 0, .slice none 0 0], .blk b13 81 [.int .i64 0, .int .i64 0]]) (fun _ h => h) K w17 a0.Arena A1 cp2 (H.rd (i := 0) (by rfl)) v23 hv22) ?_)
  rintro e w24 ⟨A25, cp26, rfl, H2⟩
  have H : Sep ok w w24 [.blk b9 79 [.slice A1 a0.Arena.Slots.length cp2, .slice A5 a0.Kids.length cp6], .blk b11 79 [.slice none 0 0, .slice none 0 0], .blk b13 81 [.int .i64 0, .int .i64 0]] [RE.rd k_Slot A1 cp2 a0.Arena.Slots, RE.rd (Kd.slice k_Handle) A5 cp6 a0.Kids, RE.lt w17.heap.size k_Slot A1 cp2 a0.Arena.Slots, RE.lt w17.heap.size (Kd.slice k_Handle) A5 cp6 a0.Kids, RE.fr w17.heap.size k_Slot A25 cp26 v23.1.Slots] := H.call H2
  clear H2
  have H : Sep ok w w24 [.blk b9 79 [.slice A1 a0.Arena.Slots.length cp2, .slice A5 a0.Kids.length cp6], .blk b11 79 [.slice none 0 0, .slice none 0 0], .blk b13 81 [.int .i64 0, .int .i64 0]] [RE.rd k_Slot A1 cp2 a0.Arena.Slots, RE.rd (Kd.slice k_Handle) A5 cp6 a0.Kids, RE.lt w17.heap.size k_Slot A1 cp2 a0.Arena.Slots, RE.lt w17.heap.size (Kd.slice k_Handle) A5 cp6 a0.Kids, RE.fr w17.heap.size k_Slot A25 cp26 v23.1.Slots, RE.rd k_Slot A25 cp26 v23.1.Slots] := (H.alsoRd (i := 4) (by rfl))
  refine ⟨_, rfl, ?_⟩
  show RL _ _ _ _ _ _ _
  refine RL_pure (by exact wn0 rfl) (by rfl) (by rfl) (x_move (v := tup [.agg #[.slice A25 v23.1.Slots.length cp26], .agg #[.int .i64 v23.2.1.Slot, .int .i64 v23.2.1.Gen], .int .i64 v23.2.2]) (by rfl)) ?_
  refine RL_pure (by exact wn0 rfl) (by rfl) (by rfl) (x_extract (v := .agg #[.slice A25 v23.1.Slots.length cp26]) (by rfl) (by rfl)) ?_
  refine RL_pure (by exact wn0 rfl) (by rfl) (by rfl) (x_extract (v := .agg #[.int .i64 v23.2.1.Slot, .int .i64 v23.2.1.Gen]) (by rfl) (by rfl)) ?_
  refine RL_pure (by exact wn0 rfl) (by rfl) (by rfl) (x_extract (v := .int .i64 v23.2.2) (by rfl) (by rfl)) ?_
  refine RL_cons (O_alloc (by exact wn0 rfl) (by rfl) ze76 (by rfl) H (fun w29 b28 (H : Sep ok w w29 [.blk b9 79 [.slice A1 a0.Arena.Slots.length cp2, .slice A5 a0.Kids.length cp6], .blk b11 79 [.slice none 0 0, .slice none 0 0], .blk b13 81 [.int .i64 0, .int .i64 0], .blk b28 76 [.slice none 0 0]] [RE.rd k_Slot A1 cp2 a0.Arena.Slots, RE.rd (Kd.slice k_Handle) A5 cp6 a0.Kids, RE.lt w17.heap.size k_Slot A1 cp2 a0.Arena.Slots, RE.lt w17.heap.size (Kd.slice k_Handle) A5 cp6 a0.Kids, RE.fr w17.heap.size k_Slot A25 cp26 v23.1.Slots, RE.rd k_Slot A25 cp26 v23.1.Slots]) => ?_))
  refine RL_cons (O_alloc (by exact wn0 rfl) (by rfl) ze81 (by rfl) H (fun w31 b30 (H : Sep ok w w31 [.blk b9 79 [.slice A1 a0.Arena.Slots.length cp2, .slice A5 a0.Kids.length cp6], .blk b11 79 [.slice none 0 0, .slice none 0 0], .blk b13 81 [.int .i64 0, .int .i64 0], .blk b28 76 [.slice none 0 0], .blk b30 81 [.int .i64 0, .int .i64 0]] [RE.rd k_Slot A1 cp2 a0.Arena.Slots, RE.rd (Kd.slice k_Handle) A5 cp6 a0.Kids, RE.lt w17.heap.size k_Slot A1 cp2 a0.Arena.Slots, RE.lt w17.heap.size (Kd.slice k_Handle) A5 cp6 a0.Kids, RE.fr w17.heap.size k_Slot A25 cp26 v23.1.Slots, RE.rd k_Slot A25 cp26 v23.1.Slots]) => ?_))
  refine RL_cons (O_store (i := 3) (off := 0) (by exact wn0 rfl) (by rfl) (by rfl) H (by rfl) (vs := [.slice A25 v23.1.Slots.length cp26]) (by rfl) sz76 (by rfl) (by rfl) (by rfl) (fun w32 (H : Sep ok w w32 [.blk b9 79 [.slice A1 a0.Arena.Slots.length cp2, .slice A5 a0.Kids.length cp6], .blk b11 79 [.slice none 0 0, .slice none 0 0], .blk b13 81 [.int .i64 0, .int .i64 0], .blk b28 76 [.slice A25 v23.1.Slots.length cp26], .blk b30 81 [.int .i64 0, .int .i64 0]] [RE.rd k_Slot A1 cp2 a0.Arena.Slots, RE.rd (Kd.slice k_Handle) A5 cp6 a0.Kids, RE.lt w17.heap.size k_Slot A1 cp2 a0.Arena.Slots, RE.lt w17.heap.size (Kd.slice k_Handle) A5 cp6 a0.Kids, RE.fr w17.heap.size k_Slot A25 cp26 v23.1.Slots, RE.rd k_Slot A25 cp26 v23.1.Slots]) => ?_))
  refine RL_cons (O_store (i := 4) (off := 0) (by exact wn0 rfl) (by rfl) (by rfl) H (by rfl) (vs := [.int .i64 v23.2.1.Slot, .int .i64 v23.2.1.Gen]) (by rfl) sz81 (by rfl) (by rfl) (by rfl) (fun w33 (H : Sep ok w w33 [.blk b9 79 [.slice A1 a0.Arena.Slots.length cp2, .slice A5 a0.Kids.length cp6], .blk b11 79 [.slice none 0 0, .slice none 0 0], .blk b13 81 [.int .i64 0, .int .i64 0], .blk b28 76 [.slice A25 v23.1.Slots.length cp26], .blk b30 81 [.int .i64 v23.2.1.Slot, .int .i64 v23.2.1.Gen]] [RE.rd k_Slot A1 cp2 a0.Arena.Slots, RE.rd (Kd.slice k_Handle) A5 cp6 a0.Kids, RE.lt w17.heap.size k_Slot A1 cp2 a0.Arena.Slots, RE.lt w17.heap.size (Kd.slice k_Handle) A5 cp6 a0.Kids, RE.fr w17.heap.size k_Slot A25 cp26 v23.1.Slots, RE.rd k_Slot A25 cp26 v23.1.Slots]) => ?_))
  refine RL_pure (by exact wn0 rfl) (by rfl) (by rfl) (x_assign (v := .int .i64 v23.2.2) (by rfl)) ?_
  refine RL_nil ?_
  refine W_seq ?_
  refine W_seq ?_
  refine W_region ?_
  refine RL_pure (by exact wn0 rfl) (by rfl) (by rfl) (x_move (v := .int .i64 v23.2.2) (by rfl)) ?_
  refine RL_pure (by exact wn0 rfl) (by rfl) (by rfl) (x_neq (by rfl) (by rfl)) ?_
  refine RL_nil ?_
  refine W_cond (by rfl) (fun hb => ?_) (fun hb => ?_)
  ·have hm := cond_t hb hm
   refine W_seq ?_
   refine W_region ?_
   refine RL_pure (by exact wn0 rfl) (by rfl) (by rfl) (x_build (vs := []) (cs := [.slice none 0 0, .slice none 0 0]) (by rfl) (by kernel_rfl)) ?_
   refine RL_pure (by exact wn0 rfl) (by rfl) (by rfl) (x_build (vs := []) (cs := [.int .i64 0, .int .i64 0]) (by rfl) (by kernel_rfl)) ?_
   refine RL_pure (by exact wn0 rfl) (by rfl) (by rfl) (x_move (v := .int .i64 v23.2.2) (by rfl)) ?_
   refine RL_cons (O_store (i := 1) (off := 0) (by exact wn0 rfl) (by rfl) (by rfl) H (by rfl) (vs := [.slice none 0 0, .slice none 0 0]) (by rfl) sz79 (by rfl) (by rfl) (by rfl) (fun w34 (H : Sep ok w w34 [.blk b9 79 [.slice A1 a0.Arena.Slots.length cp2, .slice A5 a0.Kids.length cp6], .blk b11 79 [.slice none 0 0, .slice none 0 0], .blk b13 81 [.int .i64 0, .int .i64 0], .blk b28 76 [.slice A25 v23.1.Slots.length cp26], .blk b30 81 [.int .i64 v23.2.1.Slot, .int .i64 v23.2.1.Gen]] [RE.rd k_Slot A1 cp2 a0.Arena.Slots, RE.rd (Kd.slice k_Handle) A5 cp6 a0.Kids, RE.lt w17.heap.size k_Slot A1 cp2 a0.Arena.Slots, RE.lt w17.heap.size (Kd.slice k_Handle) A5 cp6 a0.Kids, RE.fr w17.heap.size k_Slot A25 cp26 v23.1.Slots, RE.rd k_Slot A25 cp26 v23.1.Slots]) => ?_))
   refine RL_cons (O_store (i := 2) (off := 0) (by exact wn0 rfl) (by rfl) (by rfl) H (by rfl) (vs := [.int .i64 0, .int .i64 0]) (by rfl) sz81 (by rfl) (by rfl) (by rfl) (fun w35 (H : Sep ok w w35 [.blk b9 79 [.slice A1 a0.Arena.Slots.length cp2, .slice A5 a0.Kids.length cp6], .blk b11 79 [.slice none 0 0, .slice none 0 0], .blk b13 81 [.int .i64 0, .int .i64 0], .blk b28 76 [.slice A25 v23.1.Slots.length cp26], .blk b30 81 [.int .i64 v23.2.1.Slot, .int .i64 v23.2.1.Gen]] [RE.rd k_Slot A1 cp2 a0.Arena.Slots, RE.rd (Kd.slice k_Handle) A5 cp6 a0.Kids, RE.lt w17.heap.size k_Slot A1 cp2 a0.Arena.Slots, RE.lt w17.heap.size (Kd.slice k_Handle) A5 cp6 a0.Kids, RE.fr w17.heap.size k_Slot A25 cp26 v23.1.Slots, RE.rd k_Slot A25 cp26 v23.1.Slots]) => ?_))
   refine RL_pure (by exact wn0 rfl) (by rfl) (by rfl) (x_assign (v := .int .i64 v23.2.2) (by rfl)) ?_
   refine RL_nil ?_
   refine W_ret ?_
   have H : Sep ok w w35 [.blk b9 79 [.slice A1 a0.Arena.Slots.length cp2, .slice A5 a0.Kids.length cp6], .blk b11 79 [.slice none 0 0, .slice none 0 0], .blk b13 81 [.int .i64 0, .int .i64 0], .blk b28 76 [.slice A25 v23.1.Slots.length cp26], .blk b30 81 [.int .i64 v23.2.1.Slot, .int .i64 v23.2.1.Gen]] [RE.rd k_Slot A1 cp2 a0.Arena.Slots, RE.rd (Kd.slice k_Handle) A5 cp6 a0.Kids, RE.lt w17.heap.size k_Slot A1 cp2 a0.Arena.Slots, RE.lt w17.heap.size (Kd.slice k_Handle) A5 cp6 a0.Kids, RE.fr w17.heap.size k_Slot A25 cp26 v23.1.Slots, RE.rd k_Slot A25 cp26 v23.1.Slots, RE.fr w.heap.size k_Slot none 0 ([])] := Sep.also H (re := RE.fr w.heap.size k_Slot none 0 ([])) (Rd.nil (by decide))
   have H : Sep ok w w35 [.blk b9 79 [.slice A1 a0.Arena.Slots.length cp2, .slice A5 a0.Kids.length cp6], .blk b11 79 [.slice none 0 0, .slice none 0 0], .blk b13 81 [.int .i64 0, .int .i64 0], .blk b28 76 [.slice A25 v23.1.Slots.length cp26], .blk b30 81 [.int .i64 v23.2.1.Slot, .int .i64 v23.2.1.Gen]] [RE.rd k_Slot A1 cp2 a0.Arena.Slots, RE.rd (Kd.slice k_Handle) A5 cp6 a0.Kids, RE.lt w17.heap.size k_Slot A1 cp2 a0.Arena.Slots, RE.lt w17.heap.size (Kd.slice k_Handle) A5 cp6 a0.Kids, RE.fr w17.heap.size k_Slot A25 cp26 v23.1.Slots, RE.rd k_Slot A25 cp26 v23.1.Slots, RE.fr w.heap.size k_Slot none 0 ([]), RE.fr w.heap.size (Kd.slice k_Handle) none 0 ([])] := Sep.also H (re := RE.fr w.heap.size (Kd.slice k_Handle) none 0 ([])) (Rd.nil (by decide))
   obtain rfl := Option.some.inj hm
   exact ⟨[.agg #[.slice none 0 0, .slice none 0 0], .agg #[.int .i64 0, .int .i64 0], .int .i64 v23.2.2], (.cellA (by rfl) ag79 (H.cells (i := 1) (by rfl)) (by rfl) (.cellA (by rfl) ag81 (H.cells (i := 2) (by rfl)) (by rfl) (.tmp (by rfl) rfl))), none, 0, none, 0, rfl, (H.forgetAll).pick [6, 7]⟩
  ·have hm := cond_f hb hm
   refine W_skip ?_
   refine W_seq ?_
   refine W_region ?_
   refine RL_pure (by exact wn0 rfl) (by rfl) (by rfl) (x_loadA (j := 0) (vs := [.slice A1 a0.Arena.Slots.length cp2, .slice A5 a0.Kids.length cp6]) ag79 (by rfl) (H.cells (i := 0) (by rfl)) (by rfl) (by rfl)) ?_
   unfold tl45 at hm
   obtain ⟨v, hv, hm⟩ := bind_some hm
   by_cases hsz : v23.1.Slots.length * 24 ≤ 140737488355328
   rotate_left
   ·rw [if_neg hsz] at hm; cases hm
   rw [if_pos hsz] at hm
   have H := H.also (re := RE.fr w.heap.size k_Slot A25 cp26 v23.1.Slots) (Rd.weak (H.frRd (i := 4) (by rfl)) fun b ob _ hb => ⟨hb.1, Nat.le_trans hm0 hb.2.1, hb.2.2⟩)
   have H : Sep ok w _ [.blk b9 79 [.slice A1 a0.Arena.Slots.length cp2, .slice A5 a0.Kids.length cp6], .blk b11 79 [.slice none 0 0, .slice none 0 0], .blk b13 81 [.int .i64 0, .int .i64 0], .blk b28 76 [.slice A25 v23.1.Slots.length cp26], .blk b30 81 [.int .i64 v23.2.1.Slot, .int .i64 v23.2.1.Gen]] [RE.rd k_Slot A1 cp2 a0.Arena.Slots, RE.rd (Kd.slice k_Handle) A5 cp6 a0.Kids, RE.fr w.heap.size k_Slot A25 cp26 v23.1.Slots] := (H.takeL 5).pick [0, 1, 6]
   refine RL_cons (O_call (by exact wn0 rfl) (by rfl) (by rfl) (x_callL (by rfl) (args := [.agg #[.slice A1 a0.Arena.Slots.length cp2, .slice A5 a0.Kids.length cp6]]) (by rfl) (cf53 _ _)) (c53x _ K _ a0 A1 cp2 A5 cp6 (H.rd (i := 0) (by rfl)) (H.rd (i := 1) (by rfl)) v hv) ?_)
   rintro e w2 ⟨A2, c2, s2, A3, c3, s3, ls, hls, rfl, H2⟩
   have H : Sep ok w w2 [.blk b9 79 [.slice A1 a0.Arena.Slots.length cp2, .slice A5 a0.Kids.length cp6], .blk b11 79 [.slice none 0 0, .slice none 0 0], .blk b13 81 [.int .i64 0, .int .i64 0], .blk b28 76 [.slice A25 v23.1.Slots.length cp26], .blk b30 81 [.int .i64 v23.2.1.Slot, .int .i64 v23.2.1.Gen], .row (.slice A2 v.Arena.Slots.length c2) 96 k_Slot.sz v.Arena.Slots.length s2, .row (.slice A3 (ls.map Inn.hd).length c3) 87 kHd.sz (ls.map Inn.hd).length s3, rowsOf 81 k_Handle.sz ls] [RE.rd k_Slot A1 cp2 a0.Arena.Slots, RE.rd (Kd.slice k_Handle) A5 cp6 a0.Kids, RE.fr w.heap.size k_Slot A25 cp26 v23.1.Slots, RE.chunks k_Slot s2 v.Arena.Slots, RE.chunks kHd s3 (ls.map Inn.hd), RE.inns k_Handle ls] := H.call H2
   clear H2
   refine ⟨_, rfl, ?_⟩
   show RL _ _ _ _ _ _ _
   refine RL_cons (O_store (i := 0) (off := 0) (by exact wn0 rfl) (by rfl) (by rfl) H (by rfl) (vs := [.slice A2 v.Arena.Slots.length c2, .slice A3 (ls.map Inn.hd).length c3]) (by rfl) sz79 (by rfl) (by rfl) (by rfl) (fun w3 (H : Sep ok w w3 [.blk b9 79 [.slice A2 v.Arena.Slots.length c2, .slice A3 (ls.map Inn.hd).length c3], .blk b11 79 [.slice none 0 0, .slice none 0 0], .blk b13 81 [.int .i64 0, .int .i64 0], .blk b28 76 [.slice A25 v23.1.Slots.length cp26], .blk b30 81 [.int .i64 v23.2.1.Slot, .int .i64 v23.2.1.Gen], .row (.slice A2 v.Arena.Slots.length c2) 96 k_Slot.sz v.Arena.Slots.length s2, .row (.slice A3 (ls.map Inn.hd).length c3) 87 kHd.sz (ls.map Inn.hd).length s3, rowsOf 81 k_Handle.sz ls] [RE.rd k_Slot A1 cp2 a0.Arena.Slots, RE.rd (Kd.slice k_Handle) A5 cp6 a0.Kids, RE.fr w.heap.size k_Slot A25 cp26 v23.1.Slots, RE.chunks k_Slot s2 v.Arena.Slots, RE.chunks kHd s3 (ls.map Inn.hd), RE.inns k_Handle ls]) => ?_))
   refine RL_nil ?_
   refine W_seq ?_
   refine W_region ?_
   refine RL_pure (by exact wn0 rfl) (by rfl) (by rfl) (x_loadA (j := 0) (vs := [.slice A25 v23.1.Slots.length cp26]) ag76 (by rfl) (H.cells (i := 3) (by rfl)) (by rfl) (by rfl)) ?_
   refine RL_pure (by exact wn0 rfl) (by rfl) (by rfl) (x_fieldAddr fo79_0 (by rfl)) ?_
   refine RL_cons (O_store (i := 0) (off := 0) (by exact wn0 rfl) (by rfl) (by rfl) H (by rfl) (vs := [.slice A25 v23.1.Slots.length cp26]) (by rfl) sz76 (by rfl) (by rfl) (by rfl) (fun w4 (H : Sep ok w w4 [.blk b9 79 [.slice A25 v23.1.Slots.length cp26, .slice A3 (ls.map Inn.hd).length c3], .blk b11 79 [.slice none 0 0, .slice none 0 0], .blk b13 81 [.int .i64 0, .int .i64 0], .blk b28 76 [.slice A25 v23.1.Slots.length cp26], .blk b30 81 [.int .i64 v23.2.1.Slot, .int .i64 v23.2.1.Gen], .row (.slice A2 v.Arena.Slots.length c2) 96 k_Slot.sz v.Arena.Slots.length s2, .row (.slice A3 (ls.map Inn.hd).length c3) 87 kHd.sz (ls.map Inn.hd).length s3, rowsOf 81 k_Handle.sz ls] [RE.rd k_Slot A1 cp2 a0.Arena.Slots, RE.rd (Kd.slice k_Handle) A5 cp6 a0.Kids, RE.fr w.heap.size k_Slot A25 cp26 v23.1.Slots, RE.chunks k_Slot s2 v.Arena.Slots, RE.chunks kHd s3 (ls.map Inn.hd), RE.inns k_Handle ls]) => ?_))
   refine RL_nil ?_
   refine W_seq ?_
   refine W_block ?_
   have hlen0 : ls.length = v.Kids.length := by rw [← hls, List.length_map]
   refine W_loop (fun k r' w' => ∃ (l : List (Inn S_Handle)) (A : Option Addr) (c : Nat) (sl : List Value), v.Kids.length ≤ l.length ∧ (l.length = v.Kids.length ∨ l.length ≤ v23.1.Slots.length) ∧ v23.1.Slots.length < l.length + k ∧ l.map (·.xs) = v.Kids ++ List.replicate ((l.map (·.xs)).length - v.Kids.length) [] ∧ Agr [(1, .pointer (some ⟨b9, 0, none⟩)), (2, .pointer (some ⟨b11, 0, none⟩)), (3, .pointer (some ⟨b13, 0, none⟩)), (6, .pointer (some ⟨b28, 0, none⟩)), (7, .pointer (some ⟨b30, 0, none⟩))] r' ∧ Sep ok w w' [.blk b9 79 [.slice A25 v23.1.Slots.length cp26, .slice A (l.map Inn.hd).length c], .blk b11 79 [.slice none 0 0, .slice none 0 0], .blk b13 81 [.int .i64 0, .int .i64 0], .blk b28 76 [.slice A25 v23.1.Slots.length cp26], .blk b30 81 [.int .i64 v23.2.1.Slot, .int .i64 v23.2.1.Gen], .row (.slice A2 v.Arena.Slots.length c2) 96 k_Slot.sz v.Arena.Slots.length s2, .row (.slice A (l.map Inn.hd).length c) 87 kHd.sz (l.map Inn.hd).length sl, rowsOf 81 k_Handle.sz l] [RE.rd k_Slot A1 cp2 a0.Arena.Slots, RE.rd (Kd.slice k_Handle) A5 cp6 a0.Kids, RE.fr w.heap.size k_Slot A25 cp26 v23.1.Slots, RE.chunks k_Slot s2 v.Arena.Slots, RE.chunks kHd sl (l.map Inn.hd), RE.inns k_Handle l]) (v23.1.Slots.length + 1) ?_ ?_
   ·exact ⟨ls, A3, c3, s3, by omega, .inl hlen0, by omega, by rw [hls]; simp, ⟨rfl, rfl, rfl, rfl, rfl, trivial⟩, H⟩
   rintro k r' w' ⟨l, A, c, sl, hl1, hl2, hl3, hlx, hAg, H⟩
   obtain ⟨r20, rfl⟩ := regen _ hAg; clear hAg
   obtain ⟨w20, rfl⟩ : ∃ W : World, W = w' := ⟨_, rfl⟩
   have hlh : (l.map Inn.hd).length = l.length := List.length_map ..
   refine W_seq ?_
   refine W_seq ?_
   refine W_region ?_
   refine RL_pure (by exact wn0 rfl) (by rfl) (by rfl) (x_fieldAddr fo79_1 (by rfl)) ?_
   refine RL_pure (by exact wn0 rfl) (by rfl) (by rfl) (x_load (j := 1) (v := .slice A (l.map Inn.hd).length c) sc77 (by rfl) (H.cells (i := 0) (by rfl)) (by rfl)) ?_
   refine RL_pure (by exact wn0 rfl) (by rfl) (by rfl) (x_len sl77 (by rfl)) ?_
   refine RL_pure (by exact wn0 rfl) (by rfl) (by rfl) (x_fieldAddr fo76_0 (by rfl)) ?_
   refine RL_pure (by exact wn0 rfl) (by rfl) (by rfl) (x_load (j := 0) (v := .slice A25 v23.1.Slots.length cp26) sc74 (by rfl) (H.cells (i := 3) (by rfl)) (by rfl)) ?_
   refine RL_pure (by exact wn0 rfl) (by rfl) (by rfl) (x_len sl74 (by rfl)) ?_
   refine RL_pure (by exact wn0 rfl) (by rfl) (by rfl) (x_lss (by rfl) (by rfl)) ?_
   refine RL_nil ?_
   refine W_cond (by rfl) (fun hb => ?_) (fun hb => ?_)
   ·have hlt : l.length < v23.1.Slots.length := by have := of_decide_eq_true hb; omega
    refine W_skip ?_
    refine W_block ?_
    refine W_region ?_
    refine RL_pure (by exact wn0 rfl) (by rfl) (by rfl) (x_fieldAddr fo79_1 (by rfl)) ?_
    refine RL_pure (by exact wn0 rfl) (by rfl) (by rfl) (x_load (j := 1) (v := .slice A (l.map Inn.hd).length c) sc77 (by rfl) (H.cells (i := 0) (by rfl)) (by rfl)) ?_
    refine RL_cons (O_buildSlice (vs := [(0, .slice none 0 0)]) (cs := [.slice none 0 0]) (by exact wn0 rfl) (by rfl) sl77 sz87 ze87 (by rfl) (by rfl) (by rfl) (by kernel_rfl) H (fun w21 bn (H : Sep ok w w21 [.blk b9 79 [.slice A25 v23.1.Slots.length cp26, .slice A (l.map Inn.hd).length c], .blk b11 79 [.slice none 0 0, .slice none 0 0], .blk b13 81 [.int .i64 0, .int .i64 0], .blk b28 76 [.slice A25 v23.1.Slots.length cp26], .blk b30 81 [.int .i64 v23.2.1.Slot, .int .i64 v23.2.1.Gen], .row (.slice A2 v.Arena.Slots.length c2) 96 k_Slot.sz v.Arena.Slots.length s2, .row (.slice A (l.map Inn.hd).length c) 87 kHd.sz (l.map Inn.hd).length sl, rowsOf 81 k_Handle.sz l, .blk bn 87 [.slice none 0 0]] [RE.rd k_Slot A1 cp2 a0.Arena.Slots, RE.rd (Kd.slice k_Handle) A5 cp6 a0.Kids, RE.fr w.heap.size k_Slot A25 cp26 v23.1.Slots, RE.chunks k_Slot s2 v.Arena.Slots, RE.chunks kHd sl (l.map Inn.hd), RE.inns k_Handle l]) => ?_))
    refine RL_cons (O_append (D := kHd) (xs := l.map Inn.hd) (ys := (List.map Inn.hd (l ++ [(Inn.nil : Inn S_Handle)] : List (Inn S_Handle)))) (i := 6) (j := 4) (o := 0) (y := (none, 0, 0)) (by exact wn0 rfl) (by rfl) (by rfl) (by rfl) H (by rfl) (by rfl) (H.cells (i := 8) (by rfl)) rfl (by simp [Inn.hd, Inn.nil]) sl77 sz87 by87 ze87 (by rfl) (by rfl) (by rw [hlh]; omega) (by rfl) (fun w22 A7 c7 s7 (H : Sep ok w w22 [.blk b9 79 [.slice A25 v23.1.Slots.length cp26, .slice A (l.map Inn.hd).length c], .blk b11 79 [.slice none 0 0, .slice none 0 0], .blk b13 81 [.int .i64 0, .int .i64 0], .blk b28 76 [.slice A25 v23.1.Slots.length cp26], .blk b30 81 [.int .i64 v23.2.1.Slot, .int .i64 v23.2.1.Gen], .row (.slice A2 v.Arena.Slots.length c2) 96 k_Slot.sz v.Arena.Slots.length s2, .row (.slice A7 (List.map Inn.hd (l ++ [(Inn.nil : Inn S_Handle)] : List (Inn S_Handle))).length c7) 87 kHd.sz (List.map Inn.hd (l ++ [(Inn.nil : Inn S_Handle)] : List (Inn S_Handle))).length s7, rowsOf 81 k_Handle.sz l, .blk bn 87 [.slice none 0 0]] [RE.rd k_Slot A1 cp2 a0.Arena.Slots, RE.rd (Kd.slice k_Handle) A5 cp6 a0.Kids, RE.fr w.heap.size k_Slot A25 cp26 v23.1.Slots, RE.chunks k_Slot s2 v.Arena.Slots, RE.chunks kHd s7 (List.map Inn.hd (l ++ [(Inn.nil : Inn S_Handle)] : List (Inn S_Handle))), RE.inns k_Handle l]) => ?_))
    refine RL_pure (by exact wn0 rfl) (by rfl) (by rfl) (x_fieldAddr fo79_1 (by rfl)) ?_
    refine RL_cons (O_store (i := 0) (off := 1) (by exact wn0 rfl) (by rfl) (by rfl) H (by rfl) (vs := [.slice A7 (List.map Inn.hd (l ++ [(Inn.nil : Inn S_Handle)] : List (Inn S_Handle))).length c7]) (by rfl) sz77 (by rfl) (by rfl) (by rfl) (fun w23 (H : Sep ok w w23 [.blk b9 79 [.slice A25 v23.1.Slots.length cp26, .slice A7 (List.map Inn.hd (l ++ [(Inn.nil : Inn S_Handle)] : List (Inn S_Handle))).length c7], .blk b11 79 [.slice none 0 0, .slice none 0 0], .blk b13 81 [.int .i64 0, .int .i64 0], .blk b28 76 [.slice A25 v23.1.Slots.length cp26], .blk b30 81 [.int .i64 v23.2.1.Slot, .int .i64 v23.2.1.Gen], .row (.slice A2 v.Arena.Slots.length c2) 96 k_Slot.sz v.Arena.Slots.length s2, .row (.slice A7 (List.map Inn.hd (l ++ [(Inn.nil : Inn S_Handle)] : List (Inn S_Handle))).length c7) 87 kHd.sz (List.map Inn.hd (l ++ [(Inn.nil : Inn S_Handle)] : List (Inn S_Handle))).length s7, rowsOf 81 k_Handle.sz l, .blk bn 87 [.slice none 0 0]] [RE.rd k_Slot A1 cp2 a0.Arena.Slots, RE.rd (Kd.slice k_Handle) A5 cp6 a0.Kids, RE.fr w.heap.size k_Slot A25 cp26 v23.1.Slots, RE.chunks k_Slot s2 v.Arena.Slots, RE.chunks kHd s7 (List.map Inn.hd (l ++ [(Inn.nil : Inn S_Handle)] : List (Inn S_Handle))), RE.inns k_Handle l]) => ?_))
    refine RL_nil ?_
    have H := H.nilRow 81 k_Handle.sz
    have hin : (RE.inns k_Handle (l ++ [(Inn.nil : Inn S_Handle)] : List (Inn S_Handle))).rel w23 _ := fun q hq => by
     rcases List.mem_append.1 hq with hq | hq
     ·exact (show (RE.inns k_Handle l).rel _ _ from H.rds 5 _ (by rfl)) q hq
     ·simp at hq; subst hq; exact Chunks.nil
    have H := (H.setRe 5 hin).rowsPush (i := 7) (k := 9) (r := (Inn.nil : Inn S_Handle)) (by rfl) (by rfl) (by decide)
    have H : Sep ok w w23 [.blk b9 79 [.slice A25 v23.1.Slots.length cp26, .slice A7 ((l ++ [(Inn.nil : Inn S_Handle)] : List (Inn S_Handle)).map Inn.hd).length c7], .blk b11 79 [.slice none 0 0, .slice none 0 0], .blk b13 81 [.int .i64 0, .int .i64 0], .blk b28 76 [.slice A25 v23.1.Slots.length cp26], .blk b30 81 [.int .i64 v23.2.1.Slot, .int .i64 v23.2.1.Gen], .row (.slice A2 v.Arena.Slots.length c2) 96 k_Slot.sz v.Arena.Slots.length s2, .row (.slice A7 ((l ++ [(Inn.nil : Inn S_Handle)] : List (Inn S_Handle)).map Inn.hd).length c7) 87 kHd.sz ((l ++ [(Inn.nil : Inn S_Handle)] : List (Inn S_Handle)).map Inn.hd).length s7, rowsOf 81 k_Handle.sz (l ++ [(Inn.nil : Inn S_Handle)] : List (Inn S_Handle))] [RE.rd k_Slot A1 cp2 a0.Arena.Slots, RE.rd (Kd.slice k_Handle) A5 cp6 a0.Kids, RE.fr w.heap.size k_Slot A25 cp26 v23.1.Slots, RE.chunks k_Slot s2 v.Arena.Slots, RE.chunks kHd s7 ((l ++ [(Inn.nil : Inn S_Handle)] : List (Inn S_Handle)).map Inn.hd), RE.inns k_Handle (l ++ [(Inn.nil : Inn S_Handle)] : List (Inn S_Handle))] := H.takeL 8
    have hl4 : (l ++ [(Inn.nil : Inn S_Handle)] : List (Inn S_Handle)).length = l.length + 1 := by simp
    refine ⟨k - 1, by omega, (l ++ [(Inn.nil : Inn S_Handle)] : List (Inn S_Handle)), A7, c7, s7, by omega, .inr (by omega), by omega, ?_, ⟨rfl, rfl, rfl, rfl, rfl, trivial⟩, H⟩
    have hp := pad_more (n := 0) hlx (by rw [List.length_map]; exact hl1)
    simpa [Inn.nil] using hp
   ·have hge : ¬ l.length < v23.1.Slots.length := by have := of_decide_eq_false hb; omega
    have hk3 : l.map (·.xs) = v.Kids ++ List.replicate (v23.1.Slots.length - v.Kids.length) [] := by
     rw [hlx, List.length_map]
     congr 2
     omega
    refine W_exit ?_
    refine W_seq ?_
    refine W_draw [.take 0, .take 1, .run 2, .tail 3, .free 4] (fun wS => Sep ok w wS [.blk b9 79 [.slice A25 v23.1.Slots.length cp26, .slice A (l.map Inn.hd).length c], .hole, .blk b13 81 [.int .i64 0, .int .i64 0], .blk b28 76 [.slice A25 v23.1.Slots.length cp26], .blk b30 81 [.int .i64 v23.2.1.Slot, .int .i64 v23.2.1.Gen], .row (.slice A2 v.Arena.Slots.length c2) 96 k_Slot.sz v.Arena.Slots.length s2, .row (.slice A (l.map Inn.hd).length c) 87 kHd.sz (l.map Inn.hd).length sl, rowsOf 81 k_Handle.sz l] [RE.rd k_Slot A1 cp2 a0.Arena.Slots, RE.rd (Kd.slice k_Handle) A5 cp6 a0.Kids, RE.fr w.heap.size k_Slot A25 cp26 v23.1.Slots, RE.chunks k_Slot s2 v.Arena.Slots, RE.chunks kHd sl (l.map Inn.hd), RE.inns k_Handle l]) [3] [4] mixed0 (by kernel_rfl) (by kernel_rfl) (by kernel_rfl) (by rfl) (by exact (Sep.holeL H.drew 1)) ?_
    obtain ⟨w30, hW⟩ : ∃ W : World, W = { w20 with drawn := w20.drawn + 1 } := ⟨_, rfl⟩
    rw [← hW]
    have H : Sep ok w w30 [.blk b9 79 [.slice A25 v23.1.Slots.length cp26, .slice A (l.map Inn.hd).length c], .blk b11 79 [.slice none 0 0, .slice none 0 0], .blk b13 81 [.int .i64 0, .int .i64 0], .blk b28 76 [.slice A25 v23.1.Slots.length cp26], .blk b30 81 [.int .i64 v23.2.1.Slot, .int .i64 v23.2.1.Gen], .row (.slice A2 v.Arena.Slots.length c2) 96 k_Slot.sz v.Arena.Slots.length s2, .row (.slice A (l.map Inn.hd).length c) 87 kHd.sz (l.map Inn.hd).length sl, rowsOf 81 k_Handle.sz l] [RE.rd k_Slot A1 cp2 a0.Arena.Slots, RE.rd (Kd.slice k_Handle) A5 cp6 a0.Kids, RE.fr w.heap.size k_Slot A25 cp26 v23.1.Slots, RE.chunks k_Slot s2 v.Arena.Slots, RE.chunks kHd sl (l.map Inn.hd), RE.inns k_Handle l] := by rw [hW]; exact H.drew
    clear hW
    refine PR_take (by rfl) (by rfl) (by rfl) (by exact wn0 rfl) (fun wS (H : Sep ok w wS [.blk b9 79 [.slice A25 v23.1.Slots.length cp26, .slice A (l.map Inn.hd).length c], .hole, .blk b13 81 [.int .i64 0, .int .i64 0], .blk b28 76 [.slice A25 v23.1.Slots.length cp26], .blk b30 81 [.int .i64 v23.2.1.Slot, .int .i64 v23.2.1.Gen], .row (.slice A2 v.Arena.Slots.length c2) 96 k_Slot.sz v.Arena.Slots.length s2, .row (.slice A (l.map Inn.hd).length c) 87 kHd.sz (l.map Inn.hd).length sl, rowsOf 81 k_Handle.sz l] [RE.rd k_Slot A1 cp2 a0.Arena.Slots, RE.rd (Kd.slice k_Handle) A5 cp6 a0.Kids, RE.fr w.heap.size k_Slot A25 cp26 v23.1.Slots, RE.chunks k_Slot s2 v.Arena.Slots, RE.chunks kHd sl (l.map Inn.hd), RE.inns k_Handle l]) => (x_loadA (j := 0) (vs := [.slice A25 v23.1.Slots.length cp26, .slice A (l.map Inn.hd).length c]) ag79 (by rfl) (H.cells (i := 0) (by rfl)) (by rfl) (by rfl))) ?_
    refine PR_take (by rfl) (by rfl) (by rfl) (by exact wn0 rfl) (fun wS (H : Sep ok w wS [.blk b9 79 [.slice A25 v23.1.Slots.length cp26, .slice A (l.map Inn.hd).length c], .hole, .blk b13 81 [.int .i64 0, .int .i64 0], .blk b28 76 [.slice A25 v23.1.Slots.length cp26], .blk b30 81 [.int .i64 v23.2.1.Slot, .int .i64 v23.2.1.Gen], .row (.slice A2 v.Arena.Slots.length c2) 96 k_Slot.sz v.Arena.Slots.length s2, .row (.slice A (l.map Inn.hd).length c) 87 kHd.sz (l.map Inn.hd).length sl, rowsOf 81 k_Handle.sz l] [RE.rd k_Slot A1 cp2 a0.Arena.Slots, RE.rd (Kd.slice k_Handle) A5 cp6 a0.Kids, RE.fr w.heap.size k_Slot A25 cp26 v23.1.Slots, RE.chunks k_Slot s2 v.Arena.Slots, RE.chunks kHd sl (l.map Inn.hd), RE.inns k_Handle l]) => (x_loadA (j := 0) (vs := [.int .i64 v23.2.1.Slot, .int .i64 v23.2.1.Gen]) ag81 (by rfl) (H.cells (i := 4) (by rfl)) (by rfl) (by rfl))) ?_
    refine PR_run (by rfl) (O_store (i := 1) (off := 0) (by exact wn0 rfl) (by rfl) (by rfl) H (by rfl) (vs := [.slice A25 v23.1.Slots.length cp26, .slice A (l.map Inn.hd).length c]) (by rfl) sz79 (by rfl) (by rfl) (by rfl) (fun w31 (H : Sep ok w w31 [.blk b9 79 [.slice A25 v23.1.Slots.length cp26, .slice A (l.map Inn.hd).length c], .blk b11 79 [.slice A25 v23.1.Slots.length cp26, .slice A (l.map Inn.hd).length c], .blk b13 81 [.int .i64 0, .int .i64 0], .blk b28 76 [.slice A25 v23.1.Slots.length cp26], .blk b30 81 [.int .i64 v23.2.1.Slot, .int .i64 v23.2.1.Gen], .row (.slice A2 v.Arena.Slots.length c2) 96 k_Slot.sz v.Arena.Slots.length s2, .row (.slice A (l.map Inn.hd).length c) 87 kHd.sz (l.map Inn.hd).length sl, rowsOf 81 k_Handle.sz l] [RE.rd k_Slot A1 cp2 a0.Arena.Slots, RE.rd (Kd.slice k_Handle) A5 cp6 a0.Kids, RE.fr w.heap.size k_Slot A25 cp26 v23.1.Slots, RE.chunks k_Slot s2 v.Arena.Slots, RE.chunks kHd sl (l.map Inn.hd), RE.inns k_Handle l]) => ⟨(Sep.holeL H 1), ?_⟩))
    refine PR_tail (by rfl) (O_store (i := 2) (off := 0) (by exact wn0 rfl) (by rfl) (by rfl) H (by rfl) (vs := [.int .i64 v23.2.1.Slot, .int .i64 v23.2.1.Gen]) (by rfl) sz81 (by rfl) (by rfl) (by rfl) (fun w32 (H : Sep ok w w32 [.blk b9 79 [.slice A25 v23.1.Slots.length cp26, .slice A (l.map Inn.hd).length c], .blk b11 79 [.slice A25 v23.1.Slots.length cp26, .slice A (l.map Inn.hd).length c], .blk b13 81 [.int .i64 v23.2.1.Slot, .int .i64 v23.2.1.Gen], .blk b28 76 [.slice A25 v23.1.Slots.length cp26], .blk b30 81 [.int .i64 v23.2.1.Slot, .int .i64 v23.2.1.Gen], .row (.slice A2 v.Arena.Slots.length c2) 96 k_Slot.sz v.Arena.Slots.length s2, .row (.slice A (l.map Inn.hd).length c) 87 kHd.sz (l.map Inn.hd).length sl, rowsOf 81 k_Handle.sz l] [RE.rd k_Slot A1 cp2 a0.Arena.Slots, RE.rd (Kd.slice k_Handle) A5 cp6 a0.Kids, RE.fr w.heap.size k_Slot A25 cp26 v23.1.Slots, RE.chunks k_Slot s2 v.Arena.Slots, RE.chunks kHd sl (l.map Inn.hd), RE.inns k_Handle l]) => ?_))
    refine PR_free (by rfl) (by rfl) (by rfl) (by exact wn0 rfl) (fun wS => (x_assign (v := .int .i64 0) (by rfl))) ?_
    refine PR_nil ?_
    refine W_ret ?_
    have HF : Sep ok w w32 [.blk b9 79 [.slice A25 v23.1.Slots.length cp26, .slice A (l.map Inn.hd).length c], .blk b11 79 [.slice A25 v23.1.Slots.length cp26, .slice A (l.map Inn.hd).length c], .blk b13 81 [.int .i64 v23.2.1.Slot, .int .i64 v23.2.1.Gen], .blk b28 76 [.slice A25 v23.1.Slots.length cp26], .blk b30 81 [.int .i64 v23.2.1.Slot, .int .i64 v23.2.1.Gen], .row (.slice A2 v.Arena.Slots.length c2) 96 k_Slot.sz v.Arena.Slots.length s2, .row (.slice A (l.map Inn.hd).length c) 87 kHd.sz (l.map Inn.hd).length sl, rowsOf 81 k_Handle.sz l] [RE.rd k_Slot A1 cp2 a0.Arena.Slots, RE.rd (Kd.slice k_Handle) A5 cp6 a0.Kids, RE.fr w.heap.size k_Slot A25 cp26 v23.1.Slots, RE.chunks k_Slot s2 v.Arena.Slots, RE.chunks kHd sl (l.map Inn.hd), RE.inns k_Handle l] := H
    have H := H.rowsFreeze hno (fun _ _ _ _ _ _ h => h) (i := 7) (o := 6) (j := 4) (q := 5) (l := l) (by rfl) (by rw [← (List.length_map Inn.hd : (List.map Inn.hd l).length = _)]; rfl) (by rfl) (by rfl) (by decide)
    rw [hk3] at H
    obtain rfl := Option.some.inj hm
    have hkl : (l.map Inn.hd).length = (v.Kids ++ List.replicate (v23.1.Slots.length - v.Kids.length) ([] : List S_Handle)).length := by rw [← hk3, List.length_map, List.length_map]
    exact ⟨[.agg #[.slice A25 v23.1.Slots.length cp26, .slice A (l.map Inn.hd).length c], .agg #[.int .i64 v23.2.1.Slot, .int .i64 v23.2.1.Gen], .int .i64 0], (.cellA (by rfl) ag79 (HF.cells (i := 1) (by rfl)) (by rfl) (.cellA (by rfl) ag81 (HF.cells (i := 2) (by rfl)) (by rfl) (.tmp (by rfl) rfl))), A25, cp26, A, c, by rw [hkl] <;> rfl, (H.forgetAll).pick [2, 6]⟩

theorem c45 (ok : Okp) (K : Nat) (w : World) (a0 : S_Graph) (A1 : Option Addr) (cp2 : Nat) (A5 : Option Addr) (cp6 : Nat) (hR3 : Rd k_Slot w ok A1 cp2 a0.Arena.Slots) (hR7 : Rd (Kd.slice k_Handle) w ok A5 cp6 a0.Kids) (res : S_Graph × S_Handle × Int) (hm : m45 K a0 = some res) (hno : ∀ k, ¬ ok.wr k := by intro k hk; exact hk) :
  Calls Try.prog 45 #[.agg #[.slice A1 a0.Arena.Slots.length cp2, .slice A5 a0.Kids.length cp6]] w (fun e w' => ∃ (A0_ : Option Addr) (c0_ : Nat), ∃ (A1_ : Option Addr) (c1_ : Nat), e = .returned (tup [.agg #[.slice A0_ res.1.Arena.Slots.length c0_, .slice A1_ res.1.Kids.length c1_], .agg #[.int .i64 res.2.1.Slot, .int .i64 res.2.1.Gen], .int .i64 res.2.2]) ∧ Sep ok w w' [] [RE.rd k_Slot A0_ c0_ res.1.Arena.Slots, RE.rd (Kd.slice k_Handle) A1_ c1_ res.1.Kids]) :=
 (c45n ok hno K w a0 A1 cp2 A5 cp6 hR3 hR7 res hm).mono fun e w' ⟨A0_, c0_, A1_, c1_, he, H⟩ => ⟨A0_, c0_, A1_, c1_, he, ((H.alsoRd (i := 0) (by rfl)).alsoRd (i := 1) (by rfl)).pick [2, 3]⟩
end Go.Proofs.YtobkigllalbkiaaV.M
