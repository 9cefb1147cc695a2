/- Part 4 of the texts that the proof of NodesTurn stands on. -/
import Derived.Test.YtobkigllalbkiaaNodesTurnZC
/- A plain Lean function that answers as the Go function does (none: not told), and the proof that a call answers so. Written by program. -/
set_option linter.unusedVariables false
namespace Go.Proofs.YtobkigllalbkiaaV.M
open Go.RowKit Go.Proofs.YtobkigllalbkiaaV
/-- Unlink, behind its call of Twin -/
def tl41 (K : Nat) (a0 : S_Graph) (a1 : S_Handle) (a2 : Int) : Option (S_Graph × Int) :=
 (m53 K a0).bind fun v => idx v.Kids a1.Slot fun l => if 0 ≤ a2 ∧ a2 < (l.length : Int) then some ((⟨v.Arena, v.Kids.set a1.Slot.toNat (l.take a2.toNat ++ l.drop (a2 + 1).toNat)⟩ : S_Graph), 0) else none
/-- diorama/nodes.Unlink -/
def m41 (K : Nat) (a0 : S_Graph) (a1 : S_Handle) (a2 : Int) : Option (S_Graph × Int) :=
 ((m79 K a0 ([a1])).bind fun v20 => (bif (v20 != 0) then some ((⟨(⟨[]⟩ : S_Arena), []⟩ : S_Graph), v20) else ((bif (decide (a2 < 0)) then some true else (idx a0.Kids a1.Slot fun el26 => some (decide ((el26.length : Int) ≤ a2)))).bind fun b25 => (bif b25 then some ((⟨(⟨[]⟩ : S_Arena), []⟩ : S_Graph), 2) else (tl41 K a0 a1 a2)))))
set_option maxRecDepth 100000 in
set_option maxHeartbeats 4000000 in
theorem c41n (ok : Okp) (hno : ∀ k, ¬ ok.wr k) (K : Nat) (w : World) (a0 : S_Graph) (A1 : Option Addr) (cp2 : Nat) (A5 : Option Addr) (cp6 : Nat) (a1 : S_Handle) (a2 : Int) (hR3 : Rd k_Slot w ok A1 cp2 a0.Arena.Slots) (hR7 : Rd (Kd.slice k_Handle) w ok A5 cp6 a0.Kids) (res : S_Graph × Int) (hm : m41 K a0 a1 a2 = some res) :
  Calls Try.prog 41 #[.agg #[.slice A1 a0.Arena.Slots.length cp2, .slice A5 a0.Kids.length cp6], .agg #[.int .i64 a1.Slot, .int .i64 a1.Gen], .int .i64 a2] w (fun e w' => ∃ (A0_ : Option Addr) (c0_ : Nat), ∃ (A1_ : Option Addr) (c1_ : Nat), e = .returned (tup [.agg #[.slice A0_ res.1.Arena.Slots.length c0_, .slice A1_ res.1.Kids.length c1_], .int .i64 res.2]) ∧ Sep ok w w' [] [FRS w A0_ c0_ res.1, FRK w A1_ c1_ res.1]) := by
 refine calls_W (args := [.agg #[.slice A1 a0.Arena.Slots.length cp2, .slice A5 a0.Kids.length cp6], .agg #[.int .i64 a1.Slot, .int .i64 a1.Gen], .int .i64 a2]) Try.func41 rfl Try.ntmps41 Try.results41 rfl fun r hr => ?_
 obtain ⟨r1, rfl⟩ := regen (r := r) [(0, .agg #[.slice A1 a0.Arena.Slots.length cp2, .slice A5 a0.Kids.length cp6]), (1, .agg #[.int .i64 a1.Slot, .int .i64 a1.Gen]), (2, .int .i64 a2)] ⟨hr 0 _ rfl, hr 1 _ rfl, hr 2 _ rfl, trivial⟩
 have H : Sep ok w w [] [RDS A1 cp2 a0, RDK A5 cp6 a0] := Sep.arg (Sep.arg (Sep.start ok w) (re := RE.rd k_Slot A1 cp2 a0.Arena.Slots) rfl rfl hR3) (re := RE.rd (Kd.slice k_Handle) A5 cp6 a0.Kids) rfl rfl hR7
 unfold m41 at hm
 refine W_seq ?_
 refine W_region ?_
 refine RL_cons (O_box (by exact wn0 rfl) (by rfl) (by rfl) (by rfl) H (fun w10 b9 (H : Sep ok w w10 [GRB b9 A1 cp2 A5 cp6 a0] [RDS A1 cp2 a0, RDK A5 cp6 a0]) => ?_))
 refine RL_cons (O_box (by exact wn0 rfl) (by rfl) (by rfl) (by rfl) H (fun w12 b11 (H : Sep ok w w12 [GRB b9 A1 cp2 A5 cp6 a0, HNB b11 a1] [RDS A1 cp2 a0, RDK A5 cp6 a0]) => ?_))
 refine RL_cons (O_alloc (by exact wn0 rfl) (by rfl) ze79 (by rfl) H (fun w14 b13 (H : Sep ok w w14 [GRB b9 A1 cp2 A5 cp6 a0, HNB b11 a1, .blk b13 79 [.slice none 0 0, .slice none 0 0]] [RDS A1 cp2 a0, RDK A5 cp6 a0]) => ?_))
 refine RL_p (x_assign (v := .int .i64 0) (by rfl)) ?_
 refine RL_nil ?_
 refine W_seq ?_
 refine W_seq ?_
 refine W_region ?_
 refine RL_p (x_loadA (j := 0) (vs := [.slice A1 a0.Arena.Slots.length cp2, .slice A5 a0.Kids.length cp6]) ag79 (by rfl) (H.cells (i := 0) (by rfl)) (by rfl) (by rfl)) ?_
 refine RL_p (x_loadA (j := 0) (vs := [.int .i64 a1.Slot, .int .i64 a1.Gen]) ag81 (by rfl) (H.cells (i := 1) (by rfl)) (by rfl) (by rfl)) ?_
 refine RL_cons (O_buildSlice (vs := [(0, .agg #[.int .i64 a1.Slot, .int .i64 a1.Gen])]) (cs := [.int .i64 a1.Slot, .int .i64 a1.Gen]) (by exact wn0 rfl) (by rfl) sl87 sz81 ze81 (by rfl) (by rfl) (by rfl) (by kernel_rfl) H (fun w16 b15 (H : Sep ok w w16 [GRB b9 A1 cp2 A5 cp6 a0, HNB b11 a1, .blk b13 79 [.slice none 0 0, .slice none 0 0], HNB b15 a1] [RDS A1 cp2 a0, RDK A5 cp6 a0]) => ?_))
 have H : Sep ok w w16 [GRB b9 A1 cp2 A5 cp6 a0, HNB b11 a1, .blk b13 79 [.slice none 0 0, .slice none 0 0], .row (.slice (some ⟨b15, 0, none⟩) ([a1]).length 1) 81 k_Handle.sz ([a1]).length [.int .i64 a1.Slot, .int .i64 a1.Gen]] [RDS A1 cp2 a0, RDK A5 cp6 a0, RE.chunks k_Handle [.int .i64 a1.Slot, .int .i64 a1.Gen] ([a1])] := H.rowOf (i := 3) (D := k_Handle) (xs := [a1]) (by rfl) (by exact ⟨rfl, rfl⟩) (by rfl)
 obtain ⟨v20, hv19, hm⟩ := bind_some hm
 refine RL_cons (O_call (by exact wn0 rfl) (by rfl) (by rfl) (x_callL (by rfl) (args := [.agg #[.slice A1 a0.Arena.Slots.length cp2, .slice A5 a0.Kids.length cp6], .slice (some ⟨b15, 0, none⟩) ([a1]).length 1]) (by rfl) (cf79 _ _)) (c79 okT K w16 a0 A1 cp2 A5 cp6 ([a1]) (some ⟨b15, 0, none⟩) 1 (H.rd (i := 0) (by rfl)).any (H.rd (i := 1) (by rfl)).any (H.rowRd (i := 3) (j := 2) (by rfl) (by rfl)) v20 hv19) ?_)
 rintro e w21 ⟨rfl, H2⟩
 have H : Sep ok w w21 [GRB b9 A1 cp2 A5 cp6 a0, HNB b11 a1, .blk b13 79 [.slice none 0 0, .slice none 0 0], .row (.slice (some ⟨b15, 0, none⟩) ([a1]).length 1) 81 k_Handle.sz ([a1]).length [.int .i64 a1.Slot, .int .i64 a1.Gen]] [RDS A1 cp2 a0, RDK A5 cp6 a0, RE.chunks k_Handle [.int .i64 a1.Slot, .int .i64 a1.Gen] ([a1])] := H.below H2.base
 clear H2
 refine ⟨_, rfl, ?_⟩
 show RL _ _ _ _ _ _ _
 refine RL_p (x_assign (v := .int .i64 v20) (by rfl)) ?_
 refine RL_nil ?_
 refine W_seq ?_
 refine W_region ?_
 refine RL_p (x_move (v := .int .i64 v20) (by rfl)) ?_
 refine RL_p (x_neq (by rfl) (by rfl)) ?_
 refine RL_nil ?_
 refine W_cond (by rfl) (fun hb => ?_) (fun hb => ?_)
 ·have hm := cond_t hb hm
  refine W_seq ?_
  refine W_region ?_
  refine RL_p (x_build (vs := []) (cs := [.slice none 0 0, .slice none 0 0]) (by rfl) (by kernel_rfl)) ?_
  refine RL_p (x_move (v := .int .i64 v20) (by rfl)) ?_
  refine RL_cons (O_store (i := 2) (off := 0) (by exact wn0 rfl) (by rfl) (by rfl) H (by rfl) (vs := [.slice none 0 0, .slice none 0 0]) (by rfl) sz79 (by rfl) (by rfl) (by rfl) (fun w22 (H : Sep ok w w22 [GRB b9 A1 cp2 A5 cp6 a0, HNB b11 a1, .blk b13 79 [.slice none 0 0, .slice none 0 0], .row (.slice (some ⟨b15, 0, none⟩) ([a1]).length 1) 81 k_Handle.sz ([a1]).length [.int .i64 a1.Slot, .int .i64 a1.Gen]] [RDS A1 cp2 a0, RDK A5 cp6 a0, RE.chunks k_Handle [.int .i64 a1.Slot, .int .i64 a1.Gen] ([a1])]) => ?_))
  refine RL_p (x_assign (v := .int .i64 v20) (by rfl)) ?_
  refine RL_nil ?_
  refine W_ret ?_
  have H : Sep ok w w22 [GRB b9 A1 cp2 A5 cp6 a0, HNB b11 a1, .blk b13 79 [.slice none 0 0, .slice none 0 0], .row (.slice (some ⟨b15, 0, none⟩) ([a1]).length 1) 81 k_Handle.sz ([a1]).length [.int .i64 a1.Slot, .int .i64 a1.Gen]] [RDS A1 cp2 a0, RDK A5 cp6 a0, RE.chunks k_Handle [.int .i64 a1.Slot, .int .i64 a1.Gen] ([a1]), RE.fr w.heap.size k_Slot none 0 ([])] := Sep.also H (re := RE.fr w.heap.size k_Slot none 0 ([])) (Rd.nil (by decide))
  have H : Sep ok w w22 [GRB b9 A1 cp2 A5 cp6 a0, HNB b11 a1, .blk b13 79 [.slice none 0 0, .slice none 0 0], .row (.slice (some ⟨b15, 0, none⟩) ([a1]).length 1) 81 k_Handle.sz ([a1]).length [.int .i64 a1.Slot, .int .i64 a1.Gen]] [RDS A1 cp2 a0, RDK A5 cp6 a0, RE.chunks k_Handle [.int .i64 a1.Slot, .int .i64 a1.Gen] ([a1]), RE.fr w.heap.size k_Slot none 0 ([]), RE.fr w.heap.size (Kd.slice k_Handle) none 0 ([])] := Sep.also H (re := RE.fr w.heap.size (Kd.slice k_Handle) none 0 ([])) (Rd.nil (by decide))
  obtain rfl := Option.some.inj hm
  exact ⟨[.agg #[.slice none 0 0, .slice none 0 0], .int .i64 v20], (.cellA (by rfl) ag79 (H.cells (i := 2) (by rfl)) (by rfl) (.tmp (by rfl) rfl)), none, 0, none, 0, rfl, (H.forgetAll).pick [3, 4]⟩
 ·have hm := cond_f hb hm
  refine W_skip ?_
  refine W_seq ?_
  refine W_seq ?_
  refine W_region ?_
  refine RL_p (x_move (v := .int .i64 a2) (by rfl)) ?_
  refine RL_p (x_lss (by rfl) (by rfl)) ?_
  refine RL_p (x_move (v := .bool (decide (a2 < 0))) (by rfl)) ?_
  obtain ⟨b25, hmS, hm⟩ := bind_some hm
  refine RL_cut 10 (fun r' w' => Agr [(29, .bool b25), (2, .int .i64 a2), (3, .pointer (some ⟨b9, 0, none⟩)), (4, .pointer (some ⟨b11, 0, none⟩)), (6, .pointer (some ⟨b13, 0, none⟩))] r' ∧ Sep ok w w' [GRB b9 A1 cp2 A5 cp6 a0, HNB b11 a1, .blk b13 79 [.slice none 0 0, .slice none 0 0], .row (.slice (some ⟨b15, 0, none⟩) ([a1]).length 1) 81 k_Handle.sz ([a1]).length [.int .i64 a1.Slot, .int .i64 a1.Gen]] [RDS A1 cp2 a0, RDK A5 cp6 a0, RE.chunks k_Handle [.int .i64 a1.Slot, .int .i64 a1.Gen] ([a1])]) ?_ ?_
  ·cases hbS : (decide (a2 < 0))
   ·have hm := cond_f hbS hmS
    refine RL_pure (by exact wn1 rfl rfl rfl rfl) (by rfl) (by rfl) (x_move (v := .int .i64 a2) (by rfl)) ?_
    refine RL_pure (by exact wn1 rfl rfl rfl rfl) (by rfl) (by rfl) (x_fieldAddr fo79_1 (by rfl)) ?_
    refine RL_pure (by exact wn1 rfl rfl rfl rfl) (by rfl) (by rfl) (x_load (j := 1) (v := .slice A5 a0.Kids.length cp6) sc77 (by rfl) (H.cells (i := 0) (by rfl)) (by rfl)) ?_
    refine RL_pure (by exact wn1 rfl rfl rfl rfl) (by rfl) (by rfl) (x_fieldAddr fo81_0 (by rfl)) ?_
    refine RL_pure (by exact wn1 rfl rfl rfl rfl) (by rfl) (by rfl) (x_load (j := 0) (v := .int .i64 a1.Slot) sc3 (by rfl) (H.cells (i := 1) (by rfl)) (by rfl)) ?_
    obtain ⟨el26, h27, h28, he29, hm⟩ := idx_some hm
    obtain ⟨g31, o32, hA30⟩ := (H.rd (i := 1) (by rfl)).addr he29
    obtain ⟨cs33, hk34, hat35, hg_cs33⟩ := (H.rd (i := 1) (by rfl)).openAt hA30 he29
    obtain ⟨A38, cp39, rfl, hR41⟩ := hk34
    have H : Sep ok w w21 [GRB b9 A1 cp2 A5 cp6 a0, HNB b11 a1, .blk b13 79 [.slice none 0 0, .slice none 0 0], .row (.slice (some ⟨b15, 0, none⟩) ([a1]).length 1) 81 k_Handle.sz ([a1]).length [.int .i64 a1.Slot, .int .i64 a1.Gen]] [RDS A1 cp2 a0, RDK A5 cp6 a0, RE.chunks k_Handle [.int .i64 a1.Slot, .int .i64 a1.Gen] ([a1]), RE.cells g31 (o32 + (a1.Slot).toNat * 1) [.slice A38 el26.length cp39]] := Sep.also H (re := RE.cells g31 (o32 + (a1.Slot).toNat * 1) [.slice A38 el26.length cp39]) ⟨hg_cs33, hat35⟩
    have H : Sep ok w w21 [GRB b9 A1 cp2 A5 cp6 a0, HNB b11 a1, .blk b13 79 [.slice none 0 0, .slice none 0 0], .row (.slice (some ⟨b15, 0, none⟩) ([a1]).length 1) 81 k_Handle.sz ([a1]).length [.int .i64 a1.Slot, .int .i64 a1.Gen]] [RDS A1 cp2 a0, RDK A5 cp6 a0, RE.chunks k_Handle [.int .i64 a1.Slot, .int .i64 a1.Gen] ([a1]), RE.cells g31 (o32 + (a1.Slot).toNat * 1) [.slice A38 el26.length cp39], RE.rd k_Handle A38 cp39 el26] := Sep.also H (re := RE.rd k_Handle A38 cp39 el26) hR41
    refine RL_pure (by exact wn1 rfl rfl rfl rfl) (by rfl) (by rfl) (x_indexAddr sl77 sz87 (by rfl) (by rfl) hA30 h27 h28) ?_
    refine RL_pure (by exact wn1 rfl rfl rfl rfl) (by rfl) (by rfl) (x_load (j := 0) (v := .slice A38 el26.length cp39) sc87 (by rfl) (H.cellsR (i := 3) (by rfl)) (by rfl)) ?_
    refine RL_pure (by exact wn1 rfl rfl rfl rfl) (by rfl) (by rfl) (x_len sl87 (by rfl)) ?_
    refine RL_pure (by exact wn1 rfl rfl rfl rfl) (by rfl) (by rfl) (x_geq (by rfl) (by rfl)) ?_
    refine RL_p (x_pick_f (v := .bool (decide ((el26.length : Int) ≤ a2))) (by rfl) (by rfl)) ?_
    refine RL_nil ?_
    exact ⟨⟨congrArg Value.bool (Option.some.inj hm), rfl, rfl, rfl, rfl, trivial⟩, (H.takeL 4).takeR 3⟩
   ·have hm := cond_t hbS hmS
    refine RL_cons (OpR_off (by exact wn2 rfl rfl rfl rfl) (by rfl) (by rfl) ?_)
    refine RL_cons (OpR_off (by exact wn2 rfl rfl rfl rfl) (by rfl) (by rfl) ?_)
    refine RL_cons (OpR_off (by exact wn2 rfl rfl rfl rfl) (by rfl) (by rfl) ?_)
    refine RL_cons (OpR_off (by exact wn2 rfl rfl rfl rfl) (by rfl) (by rfl) ?_)
    refine RL_cons (OpR_off (by exact wn2 rfl rfl rfl rfl) (by rfl) (by rfl) ?_)
    refine RL_cons (OpR_off (by exact wn2 rfl rfl rfl rfl) (by rfl) (by rfl) ?_)
    refine RL_cons (OpR_off (by exact wn2 rfl rfl rfl rfl) (by rfl) (by rfl) ?_)
    refine RL_cons (OpR_off (by exact wn2 rfl rfl rfl rfl) (by rfl) (by rfl) ?_)
    refine RL_cons (OpR_off (by exact wn2 rfl rfl rfl rfl) (by rfl) (by rfl) ?_)
    refine RL_p (x_pick_t (v := .bool true) (by rfl) (by rfl)) ?_
    refine RL_nil ?_
    exact ⟨⟨congrArg Value.bool (Option.some.inj hm), rfl, rfl, rfl, rfl, trivial⟩, H⟩
  ·rintro r' w' ⟨hA, H⟩
   obtain ⟨r43, rfl⟩ := regen _ hA; clear hA
   obtain ⟨w44, rfl⟩ : ∃ W : World, W = w' := ⟨_, rfl⟩
   show RL _ _ _ _ _ _ _
   refine RL_nil ?_
   refine W_cond (by rfl) (fun hb => ?_) (fun hb => ?_)
   ·have hm := cond_t hb hm
    refine W_seq ?_
    refine W_region ?_
    refine RL_p (x_build (vs := []) (cs := [.slice none 0 0, .slice none 0 0]) (by rfl) (by kernel_rfl)) ?_
    refine RL_cons (O_store (i := 2) (off := 0) (by exact wn0 rfl) (by rfl) (by rfl) H (by rfl) (vs := [.slice none 0 0, .slice none 0 0]) (by rfl) sz79 (by rfl) (by rfl) (by rfl) (fun w45 (H : Sep ok w w45 [GRB b9 A1 cp2 A5 cp6 a0, HNB b11 a1, .blk b13 79 [.slice none 0 0, .slice none 0 0], .row (.slice (some ⟨b15, 0, none⟩) ([a1]).length 1) 81 k_Handle.sz ([a1]).length [.int .i64 a1.Slot, .int .i64 a1.Gen]] [RDS A1 cp2 a0, RDK A5 cp6 a0, RE.chunks k_Handle [.int .i64 a1.Slot, .int .i64 a1.Gen] ([a1])]) => ?_))
    refine RL_p (x_assign (v := .int .i64 2) (by rfl)) ?_
    refine RL_nil ?_
    refine W_ret ?_
    have H : Sep ok w w45 [GRB b9 A1 cp2 A5 cp6 a0, HNB b11 a1, .blk b13 79 [.slice none 0 0, .slice none 0 0], .row (.slice (some ⟨b15, 0, none⟩) ([a1]).length 1) 81 k_Handle.sz ([a1]).length [.int .i64 a1.Slot, .int .i64 a1.Gen]] [RDS A1 cp2 a0, RDK A5 cp6 a0, RE.chunks k_Handle [.int .i64 a1.Slot, .int .i64 a1.Gen] ([a1]), RE.fr w.heap.size k_Slot none 0 ([])] := Sep.also H (re := RE.fr w.heap.size k_Slot none 0 ([])) (Rd.nil (by decide))
    have H : Sep ok w w45 [GRB b9 A1 cp2 A5 cp6 a0, HNB b11 a1, .blk b13 79 [.slice none 0 0, .slice none 0 0], .row (.slice (some ⟨b15, 0, none⟩) ([a1]).length 1) 81 k_Handle.sz ([a1]).length [.int .i64 a1.Slot, .int .i64 a1.Gen]] [RDS A1 cp2 a0, RDK A5 cp6 a0, RE.chunks k_Handle [.int .i64 a1.Slot, .int .i64 a1.Gen] ([a1]), RE.fr w.heap.size k_Slot none 0 ([]), RE.fr w.heap.size (Kd.slice k_Handle) none 0 ([])] := Sep.also H (re := RE.fr w.heap.size (Kd.slice k_Handle) none 0 ([])) (Rd.nil (by decide))
    obtain rfl := Option.some.inj hm
    exact ⟨[.agg #[.slice none 0 0, .slice none 0 0], .int .i64 2], (.cellA (by rfl) ag79 (H.cells (i := 2) (by rfl)) (by rfl) (.tmp (by rfl) rfl)), none, 0, none, 0, rfl, (H.forgetAll).pick [3, 4]⟩
   ·have hm := cond_f hb hm
    refine W_skip ?_
    refine W_seq ?_
    refine W_region ?_
    refine RL_p (x_loadA (j := 0) (vs := [.slice A1 a0.Arena.Slots.length cp2, .slice A5 a0.Kids.length cp6]) ag79 (by rfl) (H.cells (i := 0) (by rfl)) (by rfl) (by rfl)) ?_
    unfold tl41 at hm
    obtain ⟨v, hv, hm⟩ := bind_some hm
    have H : Sep ok w _ [GRB b9 A1 cp2 A5 cp6 a0, HNB b11 a1, .blk b13 79 [.slice none 0 0, .slice none 0 0]] [RDS A1 cp2 a0, RDK A5 cp6 a0] := (H.takeL 3).pick [0, 1]
    refine RL_cons (O_call (by exact wn0 rfl) (by rfl) (by rfl) (x_callL (by rfl) (args := [.agg #[.slice A1 a0.Arena.Slots.length cp2, .slice A5 a0.Kids.length cp6]]) (by rfl) (cf53 _ _)) (c53x _ K _ a0 A1 cp2 A5 cp6 (H.rd (i := 0) (by rfl)) (H.rd (i := 1) (by rfl)) v hv) ?_)
    rintro e w2 ⟨A2, c2, s2, A3, c3, s3, ls, hls, rfl, H2⟩
    have H : Sep ok w w2 [GRB b9 A1 cp2 A5 cp6 a0, HNB b11 a1, .blk b13 79 [.slice none 0 0, .slice none 0 0], .row (.slice A2 v.Arena.Slots.length c2) 96 k_Slot.sz v.Arena.Slots.length s2, .row (.slice A3 (ls.map Inn.hd).length c3) 87 kHd.sz (ls.map Inn.hd).length s3, rowsOf 81 k_Handle.sz ls] [RDS A1 cp2 a0, RDK A5 cp6 a0, RE.chunks k_Slot s2 v.Arena.Slots, RE.chunks kHd s3 (ls.map Inn.hd), RE.inns k_Handle ls] := H.call H2
    clear H2
    refine ⟨_, rfl, ?_⟩
    show RL _ _ _ _ _ _ _
    refine RL_cons (O_store (i := 0) (off := 0) (by exact wn0 rfl) (by rfl) (by rfl) H (by rfl) (vs := [.slice A2 v.Arena.Slots.length c2, .slice A3 (ls.map Inn.hd).length c3]) (by rfl) sz79 (by rfl) (by rfl) (by rfl) (fun w3 (H : Sep ok w w3 [.blk b9 79 [.slice A2 v.Arena.Slots.length c2, .slice A3 (ls.map Inn.hd).length c3], HNB b11 a1, .blk b13 79 [.slice none 0 0, .slice none 0 0], .row (.slice A2 v.Arena.Slots.length c2) 96 k_Slot.sz v.Arena.Slots.length s2, .row (.slice A3 (ls.map Inn.hd).length c3) 87 kHd.sz (ls.map Inn.hd).length s3, rowsOf 81 k_Handle.sz ls] [RDS A1 cp2 a0, RDK A5 cp6 a0, RE.chunks k_Slot s2 v.Arena.Slots, RE.chunks kHd s3 (ls.map Inn.hd), RE.inns k_Handle ls]) => ?_))
    refine RL_nil ?_
    obtain ⟨el, h0, h1, he, hm⟩ := idx_some hm
    by_cases hrange : 0 ≤ a2 ∧ a2 < (el.length : Int)
    rotate_left
    ·rw [if_neg hrange] at hm; cases hm
    rw [if_pos hrange] at hm
    obtain ⟨ha0, ha1⟩ := hrange
    obtain ⟨r, hr, hrx⟩ : ∃ r, ls[a1.Slot.toNat]? = some r ∧ r.xs = el := by
     rw [← hls, List.getElem?_map] at he
     cases hq : ls[a1.Slot.toNat]? with
     | none => rw [hq] at he; cases he
     | some r => rw [hq] at he; exact ⟨r, rfl, Option.some.inj he⟩
    subst hrx
    have hhd : (ls.map Inn.hd)[a1.Slot.toNat]? = some r.hd := by rw [List.getElem?_map, hr]; rfl
    have hlen : ls.length = v.Kids.length := by rw [← hls, List.length_map]
    have h1' : a1.Slot < ((ls.map Inn.hd).length : Int) := by rw [List.length_map, hlen]; exact h1
    obtain ⟨gi, _, hAi, _, _⟩ := H.rowIdx (i := 4) (j := 3) (by rfl) (by rfl) hhd
    have hrow : (Ent.row (.slice r.A r.xs.length r.c) 81 k_Handle.sz r.xs.length r.cs).ok w3 := rowsOf_ok.1 (H.ents 5 _ (by rfl)) r (List.mem_of_getElem? hr)
    have hxc : r.xs.length ≤ 9223372036854775807 := by
     rcases hrow.2 with ⟨_, h⟩ | ⟨_, _, _, _, _, _, h, hcm, _⟩
     ·omega
     ·simp only [maxLen] at hcm; omega
    have hw2 : IntKind.i64.wrap (a2 + 1) = a2 + 1 := wrap_i64_in (by omega)
    refine W_seq ?_
    refine W_draw [.free 0, .take 1, .free 2, .take 3, .free 4, .take 5, .free 6, .take 7, .free 8, .take 9, .free 10, .free 11, .free 12, .run 13, .free 14, .tail 15] (fun wS => Sep ok w wS [.blk b9 79 [.slice A2 v.Arena.Slots.length c2, .slice A3 (ls.map Inn.hd).length c3], HNB b11 a1, .blk b13 79 [.slice none 0 0, .slice none 0 0], .row (.slice A2 v.Arena.Slots.length c2) 96 k_Slot.sz v.Arena.Slots.length s2, .row (.slice A3 (ls.map Inn.hd).length c3) 87 kHd.sz (ls.map Inn.hd).length s3] [RDS A1 cp2 a0, RDK A5 cp6 a0, RE.chunks k_Slot s2 v.Arena.Slots, RE.chunks kHd s3 (ls.map Inn.hd)]) [15] [0, 2, 4, 6, 8, 10, 11, 12, 14] mixed0 (by kernel_rfl) (by kernel_rfl) (by kernel_rfl) (by rfl) (by exact (H.drew.takeL 5).takeR 4) ?_
    obtain ⟨w4, hW⟩ : ∃ W : World, W = { w3 with drawn := w3.drawn + 1 } := ⟨_, rfl⟩
    rw [← hW]
    have H : Sep ok w w4 [.blk b9 79 [.slice A2 v.Arena.Slots.length c2, .slice A3 (ls.map Inn.hd).length c3], HNB b11 a1, .blk b13 79 [.slice none 0 0, .slice none 0 0], .row (.slice A2 v.Arena.Slots.length c2) 96 k_Slot.sz v.Arena.Slots.length s2, .row (.slice A3 (ls.map Inn.hd).length c3) 87 kHd.sz (ls.map Inn.hd).length s3, rowsOf 81 k_Handle.sz ls] [RDS A1 cp2 a0, RDK A5 cp6 a0, RE.chunks k_Slot s2 v.Arena.Slots, RE.chunks kHd s3 (ls.map Inn.hd), RE.inns k_Handle ls] := by rw [hW]; exact H.drew
    clear hW
    refine PR_free (by rfl) (by rfl) (by rfl) (by exact wn0 rfl) (fun wS => (x_fieldAddr fo79_1 (by rfl))) ?_
    refine PR_take (by rfl) (by rfl) (by rfl) (by exact wn0 rfl) (fun wS (H : Sep ok w wS [.blk b9 79 [.slice A2 v.Arena.Slots.length c2, .slice A3 (ls.map Inn.hd).length c3], HNB b11 a1, .blk b13 79 [.slice none 0 0, .slice none 0 0], .row (.slice A2 v.Arena.Slots.length c2) 96 k_Slot.sz v.Arena.Slots.length s2, .row (.slice A3 (ls.map Inn.hd).length c3) 87 kHd.sz (ls.map Inn.hd).length s3] [RDS A1 cp2 a0, RDK A5 cp6 a0, RE.chunks k_Slot s2 v.Arena.Slots, RE.chunks kHd s3 (ls.map Inn.hd)]) => (x_load (j := 1) (v := .slice A3 (ls.map Inn.hd).length c3) sc77 (by rfl) (H.cells (i := 0) (by rfl)) (by rfl))) ?_
    refine PR_free (by rfl) (by rfl) (by rfl) (by exact wn0 rfl) (fun wS => (x_fieldAddr fo81_0 (by rfl))) ?_
    refine PR_take (by rfl) (by rfl) (by rfl) (by exact wn0 rfl) (fun wS (H : Sep ok w wS [.blk b9 79 [.slice A2 v.Arena.Slots.length c2, .slice A3 (ls.map Inn.hd).length c3], HNB b11 a1, .blk b13 79 [.slice none 0 0, .slice none 0 0], .row (.slice A2 v.Arena.Slots.length c2) 96 k_Slot.sz v.Arena.Slots.length s2, .row (.slice A3 (ls.map Inn.hd).length c3) 87 kHd.sz (ls.map Inn.hd).length s3] [RDS A1 cp2 a0, RDK A5 cp6 a0, RE.chunks k_Slot s2 v.Arena.Slots, RE.chunks kHd s3 (ls.map Inn.hd)]) => (x_load (j := 0) (v := .int .i64 a1.Slot) sc3 (by rfl) (H.cells (i := 1) (by rfl)) (by rfl))) ?_
    refine PR_free (by rfl) (by rfl) (by rfl) (by exact wn0 rfl) (fun wS => (x_fieldAddr fo79_1 (by rfl))) ?_
    refine PR_take (by rfl) (by rfl) (by rfl) (by exact wn0 rfl) (fun wS (H : Sep ok w wS [.blk b9 79 [.slice A2 v.Arena.Slots.length c2, .slice A3 (ls.map Inn.hd).length c3], HNB b11 a1, .blk b13 79 [.slice none 0 0, .slice none 0 0], .row (.slice A2 v.Arena.Slots.length c2) 96 k_Slot.sz v.Arena.Slots.length s2, .row (.slice A3 (ls.map Inn.hd).length c3) 87 kHd.sz (ls.map Inn.hd).length s3] [RDS A1 cp2 a0, RDK A5 cp6 a0, RE.chunks k_Slot s2 v.Arena.Slots, RE.chunks kHd s3 (ls.map Inn.hd)]) => (x_load (j := 1) (v := .slice A3 (ls.map Inn.hd).length c3) sc77 (by rfl) (H.cells (i := 0) (by rfl)) (by rfl))) ?_
    refine PR_free (by rfl) (by rfl) (by rfl) (by exact wn0 rfl) (fun wS => (x_fieldAddr fo81_0 (by rfl))) ?_
    refine PR_take (by rfl) (by rfl) (by rfl) (by exact wn0 rfl) (fun wS (H : Sep ok w wS [.blk b9 79 [.slice A2 v.Arena.Slots.length c2, .slice A3 (ls.map Inn.hd).length c3], HNB b11 a1, .blk b13 79 [.slice none 0 0, .slice none 0 0], .row (.slice A2 v.Arena.Slots.length c2) 96 k_Slot.sz v.Arena.Slots.length s2, .row (.slice A3 (ls.map Inn.hd).length c3) 87 kHd.sz (ls.map Inn.hd).length s3] [RDS A1 cp2 a0, RDK A5 cp6 a0, RE.chunks k_Slot s2 v.Arena.Slots, RE.chunks kHd s3 (ls.map Inn.hd)]) => (x_load (j := 0) (v := .int .i64 a1.Slot) sc3 (by rfl) (H.cells (i := 1) (by rfl)) (by rfl))) ?_
    refine PR_free (by rfl) (by rfl) (by rfl) (by exact wn0 rfl) (fun wS => (x_indexAddr sl77 sz87 (by rfl) (by rfl) hAi h0 h1')) ?_
    refine PR_take (by rfl) (by rfl) (by rfl) (by exact wn0 rfl) (fun wS (H : Sep ok w wS [.blk b9 79 [.slice A2 v.Arena.Slots.length c2, .slice A3 (ls.map Inn.hd).length c3], HNB b11 a1, .blk b13 79 [.slice none 0 0, .slice none 0 0], .row (.slice A2 v.Arena.Slots.length c2) 96 k_Slot.sz v.Arena.Slots.length s2, .row (.slice A3 (ls.map Inn.hd).length c3) 87 kHd.sz (ls.map Inn.hd).length s3] [RDS A1 cp2 a0, RDK A5 cp6 a0, RE.chunks k_Slot s2 v.Arena.Slots, RE.chunks kHd s3 (ls.map Inn.hd)]) => (x_load (j := 0) (v := .slice r.A r.xs.length r.c) sc87 (by rfl) (H.rowFlatAt (n := 1) (i := 4) (j := 3) (by rfl) (by rfl) hAi hhd) (by rfl))) ?_
    refine PR_free (by rfl) (by rfl) (by rfl) (by exact wn0 rfl) (fun wS => (x_move (v := .int .i64 a2) (by rfl))) ?_
    refine PR_free (by rfl) (by rfl) (by rfl) (by exact wn0 rfl) (fun wS => (x_move (v := .int .i64 a2) (by rfl))) ?_
    refine PR_free (by rfl) (by rfl) (by rfl) (by exact wn0 rfl) (fun wS => (x_add (by rfl) (by rfl) hw2)) ?_
    have H : Sep ok w w4 [.blk b9 79 [.slice A2 v.Arena.Slots.length c2, .slice A3 (ls.map Inn.hd).length c3], HNB b11 a1, .blk b13 79 [.slice none 0 0, .slice none 0 0], .row (.slice A2 v.Arena.Slots.length c2) 96 k_Slot.sz v.Arena.Slots.length s2, .row (.slice A3 (ls.map Inn.hd).length c3) 87 kHd.sz (ls.map Inn.hd).length s3, rowsOf 81 k_Handle.sz (ls.set a1.Slot.toNat Inn.nil), .row (.slice r.A r.xs.length r.c) 81 k_Handle.sz r.xs.length r.cs] [RDS A1 cp2 a0, RDK A5 cp6 a0, RE.chunks k_Slot s2 v.Arena.Slots, RE.chunks kHd s3 (ls.map Inn.hd), RE.inns k_Handle ls] := H.rowsPull (i := 5) (j := a1.Slot.toNat) (by rfl) hr
    have hrc : Chunks k_Handle w4 (okS ok w [.blk b9 79 [.slice A2 v.Arena.Slots.length c2, .slice A3 (ls.map Inn.hd).length c3], HNB b11 a1, .blk b13 79 [.slice none 0 0, .slice none 0 0], .row (.slice A2 v.Arena.Slots.length c2) 96 k_Slot.sz v.Arena.Slots.length s2, .row (.slice A3 (ls.map Inn.hd).length c3) 87 kHd.sz (ls.map Inn.hd).length s3, rowsOf 81 k_Handle.sz (ls.set a1.Slot.toNat Inn.nil), .row (.slice r.A r.xs.length r.c) 81 k_Handle.sz r.xs.length r.cs]) r.cs r.xs := (show (RE.inns k_Handle ls).rel w4 _ from H.rds 4 _ (by rfl)) r (List.mem_of_getElem? hr)
    have HL := H.lend (i := 6) (by rfl)
    have HL := HL.also (re := RE.chunks k_Handle r.cs r.xs) (hrc.flat (fun _ _ _ _ _ _ h => h))
    obtain ⟨l2, hl2⟩ : ∃ l2, r.xs.take a2.toNat ++ r.xs.drop (a2 + 1).toNat = l2 := ⟨_, rfl⟩
    rw [hl2] at hm
    refine PR_run (by rfl) (O_call (by exact wn0 rfl) (by rfl) (by rfl) (x_callL (by rfl) (args := [.slice r.A r.xs.length r.c, .int .i64 a2, .int .i64 (a2 + 1)]) (by rfl) (cf86 _ _)) (c86 _ w4 w4 r.xs a2 (a2 + 1) r.A r.c r.cs HL ha0 (by omega) (by omega) l2 hl2) ?_)
    rintro e w5 ⟨A7, c7, cs7, rfl, HB⟩
    have hcB : Chunks k_Handle w5 _ cs7 l2 := HB.rds 0 _ (by rfl)
    have H : Sep ok w w5 [.blk b9 79 [.slice A2 v.Arena.Slots.length c2, .slice A3 (ls.map Inn.hd).length c3], HNB b11 a1, .blk b13 79 [.slice none 0 0, .slice none 0 0], .row (.slice A2 v.Arena.Slots.length c2) 96 k_Slot.sz v.Arena.Slots.length s2, .row (.slice A3 (ls.map Inn.hd).length c3) 87 kHd.sz (ls.map Inn.hd).length s3, rowsOf 81 k_Handle.sz (ls.set a1.Slot.toNat Inn.nil), .row (.slice A7 l2.length c7) 81 k_Handle.sz l2.length cs7] [RDS A1 cp2 a0, RDK A5 cp6 a0, RE.chunks k_Slot s2 v.Arena.Slots, RE.chunks kHd s3 (ls.map Inn.hd), RE.inns k_Handle ls, RE.chunks k_Handle cs7 l2] := (H.back (i := 6) (by rfl) HB).also (re := RE.chunks k_Handle cs7 l2) (hcB.flat (fun _ _ _ _ _ _ h => h))
    clear HB HL
    refine ⟨_, rfl, (H.takeL 5).takeR 4, ?_⟩
    show PR _ _ _ _ _ _ _ _
    refine PR_free (by rfl) (by rfl) (by rfl) (by exact wn0 rfl) (fun wS => (x_indexAddr sl77 sz87 (by rfl) (by rfl) hAi h0 h1')) ?_
    obtain ⟨ls3, hls3⟩ : ∃ ls3 : List (Inn S_Handle), ls.set a1.Slot.toNat ⟨A7, c7, cs7, l2⟩ = ls3 := ⟨_, rfl⟩
    have hset : (ls.map Inn.hd).set a1.Slot.toNat (A7, l2.length, c7) = ls3.map Inn.hd := by rw [← hls3, List.map_set]; rfl
    have hlen3 : (ls3.map Inn.hd).length = (ls.map Inn.hd).length := by rw [← hset, List.length_set]
    refine PR_tail (by rfl) (O_storeRow (D := kHd) (i := 4) (j := 3) (off := 0) (m := a1.Slot) (a := r.hd) (b := (A7, l2.length, c7)) (vs := [.slice A7 l2.length c7]) (by exact wn0 rfl) H (by rfl) (by rfl) hAi (by rfl) (by rfl) hhd (by rfl) sz87 (by rfl) (by rfl) (by intro ce hce; obtain rfl := hce; rfl) hset (fun w6 s6 (H : Sep ok w w6 [.blk b9 79 [.slice A2 v.Arena.Slots.length c2, .slice A3 (ls.map Inn.hd).length c3], HNB b11 a1, .blk b13 79 [.slice none 0 0, .slice none 0 0], .row (.slice A2 v.Arena.Slots.length c2) 96 k_Slot.sz v.Arena.Slots.length s2, .row (.slice A3 (ls3.map Inn.hd).length c3) 87 kHd.sz (ls3.map Inn.hd).length s6, rowsOf 81 k_Handle.sz (ls.set a1.Slot.toNat Inn.nil), .row (.slice A7 l2.length c7) 81 k_Handle.sz l2.length cs7] [RDS A1 cp2 a0, RDK A5 cp6 a0, RE.chunks k_Slot s2 v.Arena.Slots, RE.chunks kHd s6 (ls3.map Inn.hd), RE.inns k_Handle ls, RE.chunks k_Handle cs7 l2]) => ?_))
    refine PR_nil ?_
    have hin := RE.inns_set (r := (⟨A7, c7, cs7, l2⟩ : Inn S_Handle)) (j := a1.Slot.toNat) (show (RE.inns k_Handle ls).rel w6 _ from H.rds 4 _ (by rfl)) (show (RE.chunks k_Handle cs7 l2).rel w6 _ from H.rds 5 _ (by rfl))
    rw [hls3] at hin
    have H := (H.setRe 4 hin).rowsPut (i := 5) (j := a1.Slot.toNat) (k := 6) (r0 := Inn.nil) (r := ⟨A7, c7, cs7, l2⟩) (by rfl) (by rw [List.getElem?_set_self (by omega)]) (by rfl) (by decide)
    rw [List.set_set, hls3] at H
    have H : Sep ok w w6 [.blk b9 79 [.slice A2 v.Arena.Slots.length c2, .slice A3 (ls.map Inn.hd).length c3], HNB b11 a1, .blk b13 79 [.slice none 0 0, .slice none 0 0], .row (.slice A2 v.Arena.Slots.length c2) 96 k_Slot.sz v.Arena.Slots.length s2, .row (.slice A3 (ls3.map Inn.hd).length c3) 87 kHd.sz (ls3.map Inn.hd).length s6, rowsOf 81 k_Handle.sz ls3] [RDS A1 cp2 a0, RDK A5 cp6 a0, RE.chunks k_Slot s2 v.Arena.Slots, RE.chunks kHd s6 (ls3.map Inn.hd), RE.inns k_Handle ls3] := (H.takeL 6).takeR 5
    have hk3 : ls3.map (·.xs) = v.Kids.set a1.Slot.toNat l2 := by rw [← hls3, List.map_set, hls]
    have hlk : (ls3.map Inn.hd).length = (ls.map Inn.hd).length := by
     have h1 := congrArg List.length hk3
     simp only [List.length_map, List.length_set] at h1 ⊢
     omega
    refine W_seq ?_
    refine W_region ?_
    refine RL_p (x_loadA (j := 0) (vs := [.slice A2 v.Arena.Slots.length c2, .slice A3 (ls.map Inn.hd).length c3]) ag79 (by rfl) (H.cells (i := 0) (by rfl)) (by rfl) (by rfl)) ?_
    refine RL_cons (O_store (i := 2) (off := 0) (by exact wn0 rfl) (by rfl) (by rfl) H (by rfl) (vs := [.slice A2 v.Arena.Slots.length c2, .slice A3 (ls.map Inn.hd).length c3]) (by rfl) sz79 (by rfl) (by rfl) (by rfl) (fun w7 (H : Sep ok w w7 [.blk b9 79 [.slice A2 v.Arena.Slots.length c2, .slice A3 (ls.map Inn.hd).length c3], HNB b11 a1, .blk b13 79 [.slice A2 v.Arena.Slots.length c2, .slice A3 (ls.map Inn.hd).length c3], .row (.slice A2 v.Arena.Slots.length c2) 96 k_Slot.sz v.Arena.Slots.length s2, .row (.slice A3 (ls3.map Inn.hd).length c3) 87 kHd.sz (ls3.map Inn.hd).length s6, rowsOf 81 k_Handle.sz ls3] [RDS A1 cp2 a0, RDK A5 cp6 a0, RE.chunks k_Slot s2 v.Arena.Slots, RE.chunks kHd s6 (ls3.map Inn.hd), RE.inns k_Handle ls3]) => ?_))
    refine RL_p (x_assign (v := .int .i64 0) (by rfl)) ?_
    refine RL_nil ?_
    refine W_ret ?_
    have HF : Sep ok w w7 [.blk b9 79 [.slice A2 v.Arena.Slots.length c2, .slice A3 (ls.map Inn.hd).length c3], HNB b11 a1, .blk b13 79 [.slice A2 v.Arena.Slots.length c2, .slice A3 (ls.map Inn.hd).length c3], .row (.slice A2 v.Arena.Slots.length c2) 96 k_Slot.sz v.Arena.Slots.length s2, .row (.slice A3 (ls3.map Inn.hd).length c3) 87 kHd.sz (ls3.map Inn.hd).length s6, rowsOf 81 k_Handle.sz ls3] [RDS A1 cp2 a0, RDK A5 cp6 a0, RE.chunks k_Slot s2 v.Arena.Slots, RE.chunks kHd s6 (ls3.map Inn.hd), RE.inns k_Handle ls3] := H
    have H := H.frozenF hno (fun _ _ _ _ _ _ h => h) (i := 3) (j := 2) (by rfl) (by rfl)
    have H := H.rowsFreeze hno (fun _ _ _ _ _ _ h => h) (i := 5) (o := 4) (j := 3) (q := 4) (l := ls3) (by rfl) (by rw [← (List.length_map Inn.hd : (List.map Inn.hd ls3).length = _)]; rfl) (by rfl) (by rfl) (by decide)
    rw [hk3] at H
    obtain rfl := Option.some.inj hm
    have hkl : (ls.map Inn.hd).length = (v.Kids.set a1.Slot.toNat l2).length := by rw [← hk3, ← hlk, List.length_map, List.length_map]
    exact ⟨[.agg #[.slice A2 v.Arena.Slots.length c2, .slice A3 (ls.map Inn.hd).length c3], .int .i64 0], (.cellA (by rfl) ag79 (HF.cells (i := 2) (by rfl)) (by rfl) (.tmp (by rfl) rfl)), A2, c2, A3, c3, by rw [hkl] <;> rfl, (H.forgetAll).pick [2, 5]⟩

theorem c41 (ok : Okp) (K : Nat) (w : World) (a0 : S_Graph) (A1 : Option Addr) (cp2 : Nat) (A5 : Option Addr) (cp6 : Nat) (a1 : S_Handle) (a2 : Int) (hR3 : Rd k_Slot w ok A1 cp2 a0.Arena.Slots) (hR7 : Rd (Kd.slice k_Handle) w ok A5 cp6 a0.Kids) (res : S_Graph × Int) (hm : m41 K a0 a1 a2 = some res) (hno : ∀ k, ¬ ok.wr k := by intro k hk; exact hk) :
  Calls Try.prog 41 #[.agg #[.slice A1 a0.Arena.Slots.length cp2, .slice A5 a0.Kids.length cp6], .agg #[.int .i64 a1.Slot, .int .i64 a1.Gen], .int .i64 a2] w (fun e w' => ∃ (A0_ : Option Addr) (c0_ : Nat), ∃ (A1_ : Option Addr) (c1_ : Nat), e = .returned (tup [.agg #[.slice A0_ res.1.Arena.Slots.length c0_, .slice A1_ res.1.Kids.length c1_], .int .i64 res.2]) ∧ Sep ok w w' [] [RDS A0_ c0_ res.1, RDK A1_ c1_ res.1]) :=
 (c41n ok hno K w a0 A1 cp2 A5 cp6 a1 a2 hR3 hR7 res hm).mono fun e w' ⟨A0_, c0_, A1_, c1_, he, H⟩ => ⟨A0_, c0_, A1_, c1_, he, ((H.alsoRd (i := 0) (by rfl)).alsoRd (i := 1) (by rfl)).pick [2, 3]⟩
end Go.Proofs.YtobkigllalbkiaaV.M

/- A plain Lean function that answers as the Go function does (none: not told), and the proof that a call answers so. Written by program. -/
set_option linter.unusedVariables false
namespace Go.Proofs.YtobkigllalbkiaaV.M
open Go.RowKit Go.Proofs.YtobkigllalbkiaaV
/-- (diorama/arena.most).free -/
def m125 (K : Nat) (a0 : Int) (a1 : S_Slot) : Option (Bool) :=
 ((bif (!a1.Live) then some (decide (a1.Gen < a0)) else some false).bind fun b3 => some b3)
set_option maxRecDepth 100000 in
set_option maxHeartbeats 4000000 in
theorem c125 (ok : Okp) (K : Nat) (w : World) (a0 : Int) (a1 : S_Slot)  (res : Bool) (hm : m125 K a0 a1 = some res) :
  Calls Try.prog 125 #[.int .i64 a0, .agg #[.int .i64 a1.Gen, .bool a1.Live]] w (fun e w' => e = .returned (tup [.bool res]) ∧ Sep ok w w' [] []) := by
 refine calls_W (args := [.int .i64 a0, .agg #[.int .i64 a1.Gen, .bool a1.Live]]) Try.func125 rfl Try.ntmps125 Try.results125 rfl fun r hr => ?_
 obtain ⟨r1, rfl⟩ := regen (r := r) [(0, .int .i64 a0), (1, .agg #[.int .i64 a1.Gen, .bool a1.Live])] ⟨hr 0 _ rfl, hr 1 _ rfl, trivial⟩
 have H : Sep ok w w [] [] := Sep.start ok w
 unfold m125 at hm
 refine W_seq ?_
 refine W_region ?_
 refine RL_cons (O_box (by exact wn0 rfl) (by rfl) (by rfl) (by rfl) H (fun w2 b1 (H : Sep ok w w2 [.blk b1 96 [.int .i64 a1.Gen, .bool a1.Live]] []) => ?_))
 refine RL_p (x_assign (v := .bool false) (by rfl)) ?_
 refine RL_nil ?_
 refine W_seq ?_
 refine W_region ?_
 refine RL_p (x_fieldAddr fo96_1 (by rfl)) ?_
 refine RL_p (x_load (j := 1) (v := .bool a1.Live) sc4 (by rfl) (H.cells (i := 0) (by rfl)) (by rfl)) ?_
 refine RL_p (x_not (by rfl)) ?_
 refine RL_p (x_move (v := .bool (!a1.Live)) (by rfl)) ?_
 obtain ⟨b3, hmS, hm⟩ := bind_some hm
 refine RL_cut 5 (fun r' w' => Agr [(13, .bool b3)] r' ∧ Sep ok w w' [.blk b1 96 [.int .i64 a1.Gen, .bool a1.Live]] []) ?_ ?_
 ·cases hbS : (!a1.Live)
  ·have hm := cond_f hbS hmS
   refine RL_cons (OpR_off (by exact wn2 rfl rfl rfl rfl) (by rfl) (by rfl) ?_)
   refine RL_cons (OpR_off (by exact wn2 rfl rfl rfl rfl) (by rfl) (by rfl) ?_)
   refine RL_cons (OpR_off (by exact wn2 rfl rfl rfl rfl) (by rfl) (by rfl) ?_)
   refine RL_cons (OpR_off (by exact wn2 rfl rfl rfl rfl) (by rfl) (by rfl) ?_)
   refine RL_p (x_pick_f (v := .bool false) (by rfl) (by rfl)) ?_
   refine RL_nil ?_
   exact ⟨⟨congrArg Value.bool (Option.some.inj hm), trivial⟩, H⟩
  ·have hm := cond_t hbS hmS
   refine RL_pure (by exact wn1 rfl rfl rfl rfl) (by rfl) (by rfl) (x_fieldAddr fo96_0 (by rfl)) ?_
   refine RL_pure (by exact wn1 rfl rfl rfl rfl) (by rfl) (by rfl) (x_load (j := 0) (v := .int .i64 a1.Gen) sc3 (by rfl) (H.cells (i := 0) (by rfl)) (by rfl)) ?_
   refine RL_pure (by exact wn1 rfl rfl rfl rfl) (by rfl) (by rfl) (x_move (v := .int .i64 a0) (by rfl)) ?_
   refine RL_pure (by exact wn1 rfl rfl rfl rfl) (by rfl) (by rfl) (x_lss (by rfl) (by rfl)) ?_
   refine RL_p (x_pick_t (v := .bool (decide (a1.Gen < a0))) (by rfl) (by rfl)) ?_
   refine RL_nil ?_
   exact ⟨⟨congrArg Value.bool (Option.some.inj hm), trivial⟩, H⟩
 ·rintro r' w' ⟨hA, H⟩
  obtain ⟨r4, rfl⟩ := regen _ hA; clear hA
  obtain ⟨w5, rfl⟩ : ∃ W : World, W = w' := ⟨_, rfl⟩
  show RL _ _ _ _ _ _ _
  refine RL_p (x_assign (v := .bool b3) (by rfl)) ?_
  refine RL_nil ?_
  refine W_ret ?_
  obtain rfl := Option.some.inj hm
  exact ⟨[.bool b3], (.tmp (by rfl) rfl), rfl, H.none_⟩
end Go.Proofs.YtobkigllalbkiaaV.M

/- A plain Lean function that answers as the Go function does (none: not told), and the proof that a call answers so. Written by program. -/
set_option linter.unusedVariables false
namespace Go.Proofs.YtobkigllalbkiaaV.M
open Go.RowKit Go.Proofs.YtobkigllalbkiaaV
def m94_j1 (K : Nat)  (l_row23_1 : (List S_Slot)) (y7_1 : Int) : Option (S_Arena × S_Handle × Int) :=
 (idx l_row23_1 y7_1 fun el66 => some ((⟨l_row23_1⟩ : S_Arena), (⟨y7_1, el66.Gen⟩ : S_Handle), 0))
/-- diorama/arena.Make -/
def m94 (K : Nat) (a0 : S_Arena) : Option (S_Arena × S_Handle × Int) :=
 ((m88 K a0).bind fun v12 => (bif (v12 != 0) then some ((⟨[]⟩ : S_Arena), (⟨0, 0⟩ : S_Handle), v12) else ((m102 K a0).bind fun v18 => ((anyS (fun (_ : Unit) (x : S_Slot) => (m125 K 1073741824 x).map fun b => (b, ())) () 0 v18.Slots).bind fun v27 => (bif (decide (0 ≤ v27.1)) then (idx v18.Slots v27.1 fun el30 => (ck (el30.Gen + 1) fun x37 => (idx v18.Slots v27.1 fun el38 => (lete (v18.Slots.set ((v27.1).toNat) (⟨x37, true⟩ : S_Slot)) fun l47 => (m94_j1 K l47 v27.1))))) else (bif ((v18.Slots.length : Int) == 128) then some ((⟨[]⟩ : S_Arena), (⟨0, 0⟩ : S_Handle), 9) else (apd 16 v18.Slots (⟨1, true⟩ : S_Slot) fun l59 => (m94_j1 K l59 (v18.Slots.length : Int)))))))))
set_option maxRecDepth 100000 in
set_option maxHeartbeats 4000000 in
theorem c94 (ok : Okp) (K : Nat) (w : World) (a0 : S_Arena) (A1 : Option Addr) (cp2 : Nat) (hR3 : Rd k_Slot w ok A1 cp2 a0.Slots) (res : S_Arena × S_Handle × Int) (hm : m94 K a0 = some res) :
  Calls Try.prog 94 #[.agg #[.slice A1 a0.Slots.length cp2]] w (fun e w' => ∃ (A0_ : Option Addr) (c0_ : Nat), e = .returned (tup [.agg #[.slice A0_ res.1.Slots.length c0_], .agg #[.int .i64 res.2.1.Slot, .int .i64 res.2.1.Gen], .int .i64 res.2.2]) ∧ Sep ok w w' [] [RE.rd k_Slot A0_ c0_ res.1.Slots]) := by
 refine calls_W (args := [.agg #[.slice A1 a0.Slots.length cp2]]) Try.func94 rfl Try.ntmps94 Try.results94 rfl fun r hr => ?_
 obtain ⟨r1, rfl⟩ := regen (r := r) [(0, .agg #[.slice A1 a0.Slots.length cp2])] ⟨hr 0 _ rfl, trivial⟩
 have H : Sep ok w w [] [RE.rd k_Slot A1 cp2 a0.Slots] := Sep.arg (Sep.start ok w) (re := RE.rd k_Slot A1 cp2 a0.Slots) rfl rfl hR3
 unfold m94 at hm
 refine W_seq ?_
 refine W_region ?_
 refine RL_cons (O_box (by exact wn0 rfl) (by rfl) (by rfl) (by rfl) H (fun w6 b5 (H : Sep ok w w6 [.blk b5 76 [.slice A1 a0.Slots.length cp2]] [RE.rd k_Slot A1 cp2 a0.Slots]) => ?_))
 refine RL_cons (O_alloc (by exact wn0 rfl) (by rfl) ze76 (by rfl) H (fun w8 b7 (H : Sep ok w w8 [.blk b5 76 [.slice A1 a0.Slots.length cp2], .blk b7 76 [.slice none 0 0]] [RE.rd k_Slot A1 cp2 a0.Slots]) => ?_))
 refine RL_cons (O_alloc (by exact wn0 rfl) (by rfl) ze81 (by rfl) H (fun w10 b9 (H : Sep ok w w10 [.blk b5 76 [.slice A1 a0.Slots.length cp2], .blk b7 76 [.slice none 0 0], .blk b9 81 [.int .i64 0, .int .i64 0]] [RE.rd k_Slot A1 cp2 a0.Slots]) => ?_))
 refine RL_p (x_assign (v := .int .i64 0) (by rfl)) ?_
 refine RL_nil ?_
 refine W_seq ?_
 refine W_seq ?_
 refine W_region ?_
 refine RL_p (x_loadA (j := 0) (vs := [.slice A1 a0.Slots.length cp2]) ag76 (by rfl) (H.cells (i := 0) (by rfl)) (by rfl) (by rfl)) ?_
 obtain ⟨v12, hv11, hm⟩ := bind_some hm
 refine RL_cons (O_call (by exact wn0 rfl) (by rfl) (by rfl) (x_callL (by rfl) (args := [.agg #[.slice A1 a0.Slots.length cp2]]) (by rfl) (cf88 _ _)) (c88 okT K w10 a0 A1 cp2 (H.rd (i := 0) (by rfl)).any v12 hv11) ?_)
 rintro e w13 ⟨rfl, H2⟩
 have H : Sep ok w w13 [.blk b5 76 [.slice A1 a0.Slots.length cp2], .blk b7 76 [.slice none 0 0], .blk b9 81 [.int .i64 0, .int .i64 0]] [RE.rd k_Slot A1 cp2 a0.Slots] := H.below H2.base
 clear H2
 refine ⟨_, rfl, ?_⟩
 show RL _ _ _ _ _ _ _
 refine RL_p (x_assign (v := .int .i64 v12) (by rfl)) ?_
 refine RL_nil ?_
 refine W_seq ?_
 refine W_region ?_
 refine RL_p (x_move (v := .int .i64 v12) (by rfl)) ?_
 refine RL_p (x_neq (by rfl) (by rfl)) ?_
 refine RL_nil ?_
 refine W_cond (by rfl) (fun hb => ?_) (fun hb => ?_)
 ·have hm := cond_t hb hm
  refine W_seq ?_
  refine W_region ?_
  refine RL_p (x_build (vs := []) (cs := [.slice none 0 0]) (by rfl) (by kernel_rfl)) ?_
  refine RL_p (x_build (vs := []) (cs := [.int .i64 0, .int .i64 0]) (by rfl) (by kernel_rfl)) ?_
  refine RL_p (x_move (v := .int .i64 v12) (by rfl)) ?_
  refine RL_cons (O_store (i := 1) (off := 0) (by exact wn0 rfl) (by rfl) (by rfl) H (by rfl) (vs := [.slice none 0 0]) (by rfl) sz76 (by rfl) (by rfl) (by rfl) (fun w14 (H : Sep ok w w14 [.blk b5 76 [.slice A1 a0.Slots.length cp2], .blk b7 76 [.slice none 0 0], .blk b9 81 [.int .i64 0, .int .i64 0]] [RE.rd k_Slot A1 cp2 a0.Slots]) => ?_))
  refine RL_cons (O_store (i := 2) (off := 0) (by exact wn0 rfl) (by rfl) (by rfl) H (by rfl) (vs := [.int .i64 0, .int .i64 0]) (by rfl) sz81 (by rfl) (by rfl) (by rfl) (fun w15 (H : Sep ok w w15 [.blk b5 76 [.slice A1 a0.Slots.length cp2], .blk b7 76 [.slice none 0 0], .blk b9 81 [.int .i64 0, .int .i64 0]] [RE.rd k_Slot A1 cp2 a0.Slots]) => ?_))
  refine RL_p (x_assign (v := .int .i64 v12) (by rfl)) ?_
  refine RL_nil ?_
  refine W_ret ?_
  have H : Sep ok w w15 [.blk b5 76 [.slice A1 a0.Slots.length cp2], .blk b7 76 [.slice none 0 0], .blk b9 81 [.int .i64 0, .int .i64 0]] [RE.rd k_Slot A1 cp2 a0.Slots, RE.rd k_Slot none 0 ([])] := Sep.also H (re := RE.rd k_Slot none 0 ([])) (Rd.nil (by decide))
  obtain rfl := Option.some.inj hm
  exact ⟨[.agg #[.slice none 0 0], .agg #[.int .i64 0, .int .i64 0], .int .i64 v12], (.cellA (by rfl) ag76 (H.cells (i := 1) (by rfl)) (by rfl) (.cellA (by rfl) ag81 (H.cells (i := 2) (by rfl)) (by rfl) (.tmp (by rfl) rfl))), none, 0, rfl, (H.forgetAll).pick [1]⟩
 ·have hm := cond_f hb hm
  refine W_skip ?_
  refine W_seq ?_
  refine W_region ?_
  refine RL_p (x_loadA (j := 0) (vs := [.slice A1 a0.Slots.length cp2]) ag76 (by rfl) (H.cells (i := 0) (by rfl)) (by rfl) (by rfl)) ?_
  obtain ⟨v18, hv17, hm⟩ := bind_some hm
  refine RL_cons (O_call (by exact wn0 rfl) (by rfl) (by rfl) (x_callL (by rfl) (args := [.agg #[.slice A1 a0.Slots.length cp2]]) (by rfl) (cf102 _ _)) (c102 (okS ok w [.blk b5 76 [.slice A1 a0.Slots.length cp2], .blk b7 76 [.slice none 0 0], .blk b9 81 [.int .i64 0, .int .i64 0]]) K w13 a0 A1 cp2 (H.rd (i := 0) (by rfl)) v18 hv17) ?_)
  rintro e w19 ⟨A20, cp21, cs22, rfl, H2⟩
  have H : Sep ok w w19 [.blk b5 76 [.slice A1 a0.Slots.length cp2], .blk b7 76 [.slice none 0 0], .blk b9 81 [.int .i64 0, .int .i64 0], .row (.slice A20 v18.Slots.length cp21) 96 k_Slot.sz v18.Slots.length cs22] [RE.rd k_Slot A1 cp2 a0.Slots, RE.chunks k_Slot cs22 v18.Slots] := H.call H2
  clear H2
  refine ⟨_, rfl, ?_⟩
  show RL _ _ _ _ _ _ _
  refine RL_cons (O_store (i := 0) (off := 0) (by exact wn0 rfl) (by rfl) (by rfl) H (by rfl) (vs := [.slice A20 v18.Slots.length cp21]) (by rfl) sz76 (by rfl) (by rfl) (by rfl) (fun w25 (H : Sep ok w w25 [.blk b5 76 [.slice A20 v18.Slots.length cp21], .blk b7 76 [.slice none 0 0], .blk b9 81 [.int .i64 0, .int .i64 0], .row (.slice A20 v18.Slots.length cp21) 96 k_Slot.sz v18.Slots.length cs22] [RE.rd k_Slot A1 cp2 a0.Slots, RE.chunks k_Slot cs22 v18.Slots]) => ?_))
  refine RL_nil ?_
  refine W_seq ?_
  refine W_region ?_
  refine RL_p (x_makeFuncF (us := [.int .i64 1073741824]) (vs := []) (by rfl) (by rfl)) ?_
  refine RL_p (x_assign (v := .func (.func 125) #[.int .i64 1073741824] #[]) (by rfl)) ?_
  refine RL_nil ?_
  refine W_seq ?_
  refine W_region ?_
  refine RL_p (x_fieldAddr fo76_0 (by rfl)) ?_
  refine RL_p (x_load (j := 0) (v := .slice A20 v18.Slots.length cp21) sc74 (by rfl) (H.cells (i := 0) (by rfl)) (by rfl)) ?_
  refine RL_p (x_move (v := .func (.func 125) #[.int .i64 1073741824] #[]) (by rfl)) ?_
  obtain ⟨v27, hv26, hm⟩ := bind_some hm
  refine RL_cons (O_call (by exact wn0 rfl) (by rfl) (by rfl) (x_callL (by rfl) (args := [.slice A20 v18.Slots.length cp21, .func (.func 125) #[.int .i64 1073741824] #[]]) (by rfl) (cf126 _ _)) (c126 (fun (_ : Unit) wS => Sep ok w wS [.blk b5 76 [.slice A20 v18.Slots.length cp21], .blk b7 76 [.slice none 0 0], .blk b9 81 [.int .i64 0, .int .i64 0], .row (.slice A20 v18.Slots.length cp21) 96 k_Slot.sz v18.Slots.length cs22] [RE.rd k_Slot A1 cp2 a0.Slots, RE.chunks k_Slot cs22 v18.Slots]) (fun (_ : Unit) (x : S_Slot) => (m125 K 1073741824 x).map fun b => (b, ())) 125 [.int .i64 1073741824] [] v18.Slots A20 cp21 (fun _ wS (H : Sep ok w wS [.blk b5 76 [.slice A20 v18.Slots.length cp21], .blk b7 76 [.slice none 0 0], .blk b9 81 [.int .i64 0, .int .i64 0], .row (.slice A20 v18.Slots.length cp21) 96 k_Slot.sz v18.Slots.length cs22] [RE.rd k_Slot A1 cp2 a0.Slots, RE.chunks k_Slot cs22 v18.Slots]) => (H.rowRd (i := 3) (j := 1) (by rfl) (by rfl))) cf125 (fun _ wS x q (H : Sep ok w wS [.blk b5 76 [.slice A20 v18.Slots.length cp21], .blk b7 76 [.slice none 0 0], .blk b9 81 [.int .i64 0, .int .i64 0], .row (.slice A20 v18.Slots.length cp21) 96 k_Slot.sz v18.Slots.length cs22] [RE.rd k_Slot A1 cp2 a0.Slots, RE.chunks k_Slot cs22 v18.Slots]) hq => by obtain ⟨b, hb, rfl⟩ := Option.map_eq_some_iff.1 hq; exact (c125 okT K wS 1073741824 x  b hb).mono fun e w_ h => ⟨h.1, H.below h.2.base⟩) () w25 H v27 hv26) ?_)
  rintro e w28 ⟨rfl, H⟩
  have H : Sep ok w w28 [.blk b5 76 [.slice A20 v18.Slots.length cp21], .blk b7 76 [.slice none 0 0], .blk b9 81 [.int .i64 0, .int .i64 0], .row (.slice A20 v18.Slots.length cp21) 96 k_Slot.sz v18.Slots.length cs22] [RE.rd k_Slot A1 cp2 a0.Slots, RE.chunks k_Slot cs22 v18.Slots] := H
  refine ⟨_, rfl, ?_⟩
  show RL _ _ _ _ _ _ _
  refine RL_p (x_assign (v := .int .i64 v27.1) (by rfl)) ?_
  refine RL_nil ?_
  refine W_join (fun r' w' => ∃ (l_row23_1 : (List S_Slot)), ∃ (y7_1 : Int), ∃ (A_row23_1 : Option Addr), ∃ (c_row23_1 : Nat), ∃ (cs_row23_1 : List Value), m94_j1 K l_row23_1 y7_1 = some res ∧ Agr [(1, .pointer (some ⟨b5, 0, none⟩)), (2, .pointer (some ⟨b7, 0, none⟩)), (3, .pointer (some ⟨b9, 0, none⟩)), (7, .int .i64 y7_1)] r' ∧ Sep ok w w' [.blk b5 76 [.slice A_row23_1 l_row23_1.length c_row23_1], .blk b7 76 [.slice none 0 0], .blk b9 81 [.int .i64 0, .int .i64 0], .row (.slice A_row23_1 l_row23_1.length c_row23_1) 96 k_Slot.sz l_row23_1.length cs_row23_1] [RE.rd k_Slot A1 cp2 a0.Slots, RE.chunks k_Slot cs_row23_1 l_row23_1]) ?_ ?_
  ·show W _ _ _ _ _ _
   refine W_block ?_
   refine W_seq ?_
   refine W_region ?_
   refine RL_p (x_move (v := .int .i64 v27.1) (by rfl)) ?_
   refine RL_p (x_geq (by rfl) (by rfl)) ?_
   refine RL_p (x_assign (v := .bool (decide (0 ≤ v27.1))) (by rfl)) ?_
   refine RL_nil ?_
   refine W_cond (by rfl) (fun hb => ?_) (fun hb => ?_)
   ·have hm := cond_t hb hm
    refine W_draw [.free 0, .take 1, .free 2, .free 3, .take 4, .free 5, .free 6, .free 7, .take 8, .free 9, .free 10, .free 11, .tail 12] (fun wS => Sep ok w wS [.blk b5 76 [.slice A20 v18.Slots.length cp21], .blk b7 76 [.slice none 0 0], .blk b9 81 [.int .i64 0, .int .i64 0], .row (.slice A20 v18.Slots.length cp21) 96 k_Slot.sz v18.Slots.length cs22] [RE.rd k_Slot A1 cp2 a0.Slots, RE.chunks k_Slot cs22 v18.Slots]) [12] [0, 2, 3, 5, 6, 7, 9, 10, 11] mixed0 (by kernel_rfl) (by kernel_rfl) (by kernel_rfl) (by rfl) (by exact H.drew) ?_
    obtain ⟨w29, hW⟩ : ∃ W : World, W = { w28 with drawn := w28.drawn + 1 } := ⟨_, rfl⟩
    rw [← hW]
    have H : Sep ok w w29 [.blk b5 76 [.slice A20 v18.Slots.length cp21], .blk b7 76 [.slice none 0 0], .blk b9 81 [.int .i64 0, .int .i64 0], .row (.slice A20 v18.Slots.length cp21) 96 k_Slot.sz v18.Slots.length cs22] [RE.rd k_Slot A1 cp2 a0.Slots, RE.chunks k_Slot cs22 v18.Slots] := by rw [hW]; exact H.drew
    clear hW
    refine PR_free (by rfl) (by rfl) (by rfl) (by exact wn0 rfl) (fun wS => (x_fieldAddr fo76_0 (by rfl))) ?_
    refine PR_take (by rfl) (by rfl) (by rfl) (by exact wn0 rfl) (fun wS (H : Sep ok w wS [.blk b5 76 [.slice A20 v18.Slots.length cp21], .blk b7 76 [.slice none 0 0], .blk b9 81 [.int .i64 0, .int .i64 0], .row (.slice A20 v18.Slots.length cp21) 96 k_Slot.sz v18.Slots.length cs22] [RE.rd k_Slot A1 cp2 a0.Slots, RE.chunks k_Slot cs22 v18.Slots]) => (x_load (j := 0) (v := .slice A20 v18.Slots.length cp21) sc74 (by rfl) (H.cells (i := 0) (by rfl)) (by rfl))) ?_
    refine PR_free (by rfl) (by rfl) (by rfl) (by exact wn0 rfl) (fun wS => (x_move (v := .int .i64 v27.1) (by rfl))) ?_
    refine PR_free (by rfl) (by rfl) (by rfl) (by exact wn0 rfl) (fun wS => (x_fieldAddr fo76_0 (by rfl))) ?_
    refine PR_take (by rfl) (by rfl) (by rfl) (by exact wn0 rfl) (fun wS (H : Sep ok w wS [.blk b5 76 [.slice A20 v18.Slots.length cp21], .blk b7 76 [.slice none 0 0], .blk b9 81 [.int .i64 0, .int .i64 0], .row (.slice A20 v18.Slots.length cp21) 96 k_Slot.sz v18.Slots.length cs22] [RE.rd k_Slot A1 cp2 a0.Slots, RE.chunks k_Slot cs22 v18.Slots]) => (x_load (j := 0) (v := .slice A20 v18.Slots.length cp21) sc74 (by rfl) (H.cells (i := 0) (by rfl)) (by rfl))) ?_
    refine PR_free (by rfl) (by rfl) (by rfl) (by exact wn0 rfl) (fun wS => (x_move (v := .int .i64 v27.1) (by rfl))) ?_
    obtain ⟨el30, h31, h32, he33, hm⟩ := idx_some hm
    obtain ⟨g35, _, hA34, _, _⟩ := H.rowIdx (i := 3) (j := 1) (by rfl) (by rfl) he33
    refine PR_free (by rfl) (by rfl) (by rfl) (by exact wn0 rfl) (fun wS => (x_indexAddr sl74 sz96 (by rfl) (by rfl) hA34 h31 h32)) ?_
    refine PR_free (by rfl) (by rfl) (by rfl) (by exact wn0 rfl) (fun wS => (x_fieldAddr fo96_0 (by rfl))) ?_
    refine PR_take (by rfl) (by rfl) (by rfl) (by exact wn0 rfl) (fun wS (H : Sep ok w wS [.blk b5 76 [.slice A20 v18.Slots.length cp21], .blk b7 76 [.slice none 0 0], .blk b9 81 [.int .i64 0, .int .i64 0], .row (.slice A20 v18.Slots.length cp21) 96 k_Slot.sz v18.Slots.length cs22] [RE.rd k_Slot A1 cp2 a0.Slots, RE.chunks k_Slot cs22 v18.Slots]) => (x_load (j := 0) (v := .int .i64 el30.Gen) sc3 (by rfl) (H.rowFlatAt (n := 2) (i := 3) (j := 1) (by rfl) (by rfl) hA34 he33) (by rfl))) ?_
    obtain ⟨x37, ex37, qx37, ux37, hm⟩ := ck_some hm
    refine PR_free (by rfl) (by rfl) (by rfl) (by exact wn0 rfl) (fun wS => (x_add (by rfl) (by rfl) ux37)) ?_
    refine PR_free (by rfl) (by rfl) (by rfl) (by exact wn0 rfl) (fun wS => (x_build (vs := [(0, .int .i64 x37), (1, .bool true)]) (cs := [.int .i64 x37, .bool true]) (by rfl) (by kernel_rfl))) ?_
    obtain ⟨el38, h39, h40, he41, hm⟩ := idx_some hm
    obtain ⟨g43, _, hA42, _, _⟩ := H.rowIdx (i := 3) (j := 1) (by rfl) (by rfl) he41
    refine PR_free (by rfl) (by rfl) (by rfl) (by exact wn0 rfl) (fun wS => (x_indexAddr sl74 sz96 (by rfl) (by rfl) hA42 h39 h40)) ?_
    obtain ⟨l47, hl48, hm⟩ := lete_some hm
    refine PR_tail (by rfl) (O_storeRow (D := k_Slot) (i := 3) (j := 1) (off := 0) (m := v27.1) (a := el38) (b := (⟨x37, true⟩ : S_Slot)) (vs := [.int .i64 x37, .bool true]) (by exact wn0 rfl) H (by rfl) (by rfl) hA42 (by rfl) (by rfl) he41 (by rfl) sz96 (by rfl) (by rfl) (by intro ce hce; obtain rfl := hce; rfl) hl48 (fun w45 cs46 (H : Sep ok w w45 [.blk b5 76 [.slice A20 v18.Slots.length cp21], .blk b7 76 [.slice none 0 0], .blk b9 81 [.int .i64 0, .int .i64 0], .row (.slice A20 l47.length cp21) 96 k_Slot.sz l47.length cs46] [RE.rd k_Slot A1 cp2 a0.Slots, RE.chunks k_Slot cs46 l47]) => ?_))
    refine PR_nil ?_
    have hn49 : v18.Slots.length = l47.length := by rw [← hl48]; exact (List.length_set ..).symm
    have H : Sep ok w w45 [.blk b5 76 [.slice A20 l47.length cp21], .blk b7 76 [.slice none 0 0], .blk b9 81 [.int .i64 0, .int .i64 0], .row (.slice A20 l47.length cp21) 96 k_Slot.sz l47.length cs46] [RE.rd k_Slot A1 cp2 a0.Slots, RE.chunks k_Slot cs46 l47] := by (try rw [hn49] at H); exact H
    exact ⟨l47, v27.1, A20, cp21, cs46, hm, ⟨rfl, rfl, rfl, rfl, trivial⟩, H⟩
   ·have hm := cond_f hb hm
    refine W_seq ?_
    refine W_region ?_
    refine RL_p (x_fieldAddr fo76_0 (by rfl)) ?_
    refine RL_p (x_load (j := 0) (v := .slice A20 v18.Slots.length cp21) sc74 (by rfl) (H.cells (i := 0) (by rfl)) (by rfl)) ?_
    refine RL_p (x_len sl74 (by rfl)) ?_
    refine RL_p (x_eql (by rfl) (by rfl)) ?_
    refine RL_p (x_assign (v := .bool ((v18.Slots.length : Int) == 128)) (by rfl)) ?_
    refine RL_nil ?_
    refine W_cond (by rfl) (fun hb => ?_) (fun hb => ?_)
    ·have hm := cond_t hb hm
     refine W_seq ?_
     refine W_region ?_
     refine RL_p (x_build (vs := []) (cs := [.slice none 0 0]) (by rfl) (by kernel_rfl)) ?_
     refine RL_p (x_build (vs := []) (cs := [.int .i64 0, .int .i64 0]) (by rfl) (by kernel_rfl)) ?_
     refine RL_cons (O_store (i := 1) (off := 0) (by exact wn0 rfl) (by rfl) (by rfl) H (by rfl) (vs := [.slice none 0 0]) (by rfl) sz76 (by rfl) (by rfl) (by rfl) (fun w50 (H : Sep ok w w50 [.blk b5 76 [.slice A20 v18.Slots.length cp21], .blk b7 76 [.slice none 0 0], .blk b9 81 [.int .i64 0, .int .i64 0], .row (.slice A20 v18.Slots.length cp21) 96 k_Slot.sz v18.Slots.length cs22] [RE.rd k_Slot A1 cp2 a0.Slots, RE.chunks k_Slot cs22 v18.Slots]) => ?_))
     refine RL_cons (O_store (i := 2) (off := 0) (by exact wn0 rfl) (by rfl) (by rfl) H (by rfl) (vs := [.int .i64 0, .int .i64 0]) (by rfl) sz81 (by rfl) (by rfl) (by rfl) (fun w51 (H : Sep ok w w51 [.blk b5 76 [.slice A20 v18.Slots.length cp21], .blk b7 76 [.slice none 0 0], .blk b9 81 [.int .i64 0, .int .i64 0], .row (.slice A20 v18.Slots.length cp21) 96 k_Slot.sz v18.Slots.length cs22] [RE.rd k_Slot A1 cp2 a0.Slots, RE.chunks k_Slot cs22 v18.Slots]) => ?_))
     refine RL_p (x_assign (v := .int .i64 9) (by rfl)) ?_
     refine RL_nil ?_
     refine W_ret ?_
     have H : Sep ok w w51 [.blk b5 76 [.slice A20 v18.Slots.length cp21], .blk b7 76 [.slice none 0 0], .blk b9 81 [.int .i64 0, .int .i64 0], .row (.slice A20 v18.Slots.length cp21) 96 k_Slot.sz v18.Slots.length cs22] [RE.rd k_Slot A1 cp2 a0.Slots, RE.chunks k_Slot cs22 v18.Slots, RE.rd k_Slot none 0 ([])] := Sep.also H (re := RE.rd k_Slot none 0 ([])) (Rd.nil (by decide))
     obtain rfl := Option.some.inj hm
     exact ⟨[.agg #[.slice none 0 0], .agg #[.int .i64 0, .int .i64 0], .int .i64 9], (.cellA (by rfl) ag76 (H.cells (i := 1) (by rfl)) (by rfl) (.cellA (by rfl) ag81 (H.cells (i := 2) (by rfl)) (by rfl) (.tmp (by rfl) rfl))), none, 0, rfl, (H.forgetAll).pick [2]⟩
    ·have hm := cond_f hb hm
     refine W_seq ?_
     refine W_region ?_
     refine RL_p (x_fieldAddr fo76_0 (by rfl)) ?_
     refine RL_p (x_load (j := 0) (v := .slice A20 v18.Slots.length cp21) sc74 (by rfl) (H.cells (i := 0) (by rfl)) (by rfl)) ?_
     refine RL_p (x_len sl74 (by rfl)) ?_
     refine RL_p (x_assign (v := .int .i64 (v18.Slots.length : Int)) (by rfl)) ?_
     refine RL_nil ?_
     refine W_region ?_
     refine RL_p (x_fieldAddr fo76_0 (by rfl)) ?_
     refine RL_p (x_load (j := 0) (v := .slice A20 v18.Slots.length cp21) sc74 (by rfl) (H.cells (i := 0) (by rfl)) (by rfl)) ?_
     refine RL_p (x_build (vs := [(0, .int .i64 1), (1, .bool true)]) (cs := [.int .i64 1, .bool true]) (by rfl) (by kernel_rfl)) ?_
     refine RL_cons (O_buildSlice (vs := [(0, .agg #[.int .i64 1, .bool true])]) (cs := [.int .i64 1, .bool true]) (by exact wn0 rfl) (by rfl) sl74 sz96 ze96 (by rfl) (by rfl) (by rfl) (by kernel_rfl) H (fun w54 b53 (H : Sep ok w w54 [.blk b5 76 [.slice A20 v18.Slots.length cp21], .blk b7 76 [.slice none 0 0], .blk b9 81 [.int .i64 0, .int .i64 0], .row (.slice A20 v18.Slots.length cp21) 96 k_Slot.sz v18.Slots.length cs22, .blk b53 96 [.int .i64 1, .bool true]] [RE.rd k_Slot A1 cp2 a0.Slots, RE.chunks k_Slot cs22 v18.Slots]) => ?_))
     obtain ⟨l59, hl60, hb61, hm⟩ := apd_some hm
     refine RL_cons (O_append (D := k_Slot) (i := 3) (j := 1) (o := 0) (y := (⟨1, true⟩ : S_Slot)) (by exact wn0 rfl) (by rfl) (by rfl) (by rfl) H (by rfl) (by rfl) (H.cells (i := 4) (by rfl)) rfl hl60 sl74 sz96 by96 ze96 (by rfl) (by rfl) hb61 (by rfl) (fun w55 A56 cp57 cs58 (H : Sep ok w w55 [.blk b5 76 [.slice A20 v18.Slots.length cp21], .blk b7 76 [.slice none 0 0], .blk b9 81 [.int .i64 0, .int .i64 0], .row (.slice A56 l59.length cp57) 96 k_Slot.sz l59.length cs58, .blk b53 96 [.int .i64 1, .bool true]] [RE.rd k_Slot A1 cp2 a0.Slots, RE.chunks k_Slot cs58 l59]) => ?_))
     refine RL_p (x_fieldAddr fo76_0 (by rfl)) ?_
     refine RL_cons (O_store (i := 0) (off := 0) (by exact wn0 rfl) (by rfl) (by rfl) H (by rfl) (vs := [.slice A56 l59.length cp57]) (by rfl) sz74 (by rfl) (by rfl) (by rfl) (fun w62 (H : Sep ok w w62 [.blk b5 76 [.slice A56 l59.length cp57], .blk b7 76 [.slice none 0 0], .blk b9 81 [.int .i64 0, .int .i64 0], .row (.slice A56 l59.length cp57) 96 k_Slot.sz l59.length cs58, .blk b53 96 [.int .i64 1, .bool true]] [RE.rd k_Slot A1 cp2 a0.Slots, RE.chunks k_Slot cs58 l59]) => ?_))
     refine RL_nil ?_
     exact ⟨l59, (v18.Slots.length : Int), A56, cp57, cs58, hm, ⟨rfl, rfl, rfl, rfl, trivial⟩, (H).takeL 4⟩
  ·rintro r' w' ⟨l_row23_1, y7_1, A_row23_1, c_row23_1, cs_row23_1, hm, hA, H⟩
   obtain ⟨r63, rfl⟩ := regen _ hA; clear hA
   obtain ⟨w64, rfl⟩ : ∃ W : World, W = w' := ⟨_, rfl⟩
   unfold m94_j1 at hm
   refine W_seq ?_
   refine W_draw [.take 0, .free 1, .free 2, .take 3, .free 4, .free 5, .free 6, .take 7, .free 8, .run 9, .tail 10, .free 11] (fun wS => Sep ok w wS [.blk b5 76 [.slice A_row23_1 l_row23_1.length c_row23_1], .hole, .blk b9 81 [.int .i64 0, .int .i64 0], .row (.slice A_row23_1 l_row23_1.length c_row23_1) 96 k_Slot.sz l_row23_1.length cs_row23_1] [RE.rd k_Slot A1 cp2 a0.Slots, RE.chunks k_Slot cs_row23_1 l_row23_1]) [10] [1, 2, 4, 5, 6, 8, 11] mixed0 (by kernel_rfl) (by kernel_rfl) (by kernel_rfl) (by rfl) (by exact (Sep.holeL H.drew 1)) ?_
   obtain ⟨w65, hW⟩ : ∃ W : World, W = { w64 with drawn := w64.drawn + 1 } := ⟨_, rfl⟩
   rw [← hW]
   have H : Sep ok w w65 [.blk b5 76 [.slice A_row23_1 l_row23_1.length c_row23_1], .blk b7 76 [.slice none 0 0], .blk b9 81 [.int .i64 0, .int .i64 0], .row (.slice A_row23_1 l_row23_1.length c_row23_1) 96 k_Slot.sz l_row23_1.length cs_row23_1] [RE.rd k_Slot A1 cp2 a0.Slots, RE.chunks k_Slot cs_row23_1 l_row23_1] := by rw [hW]; exact H.drew
   clear hW
   refine PR_take (by rfl) (by rfl) (by rfl) (by exact wn0 rfl) (fun wS (H : Sep ok w wS [.blk b5 76 [.slice A_row23_1 l_row23_1.length c_row23_1], .hole, .blk b9 81 [.int .i64 0, .int .i64 0], .row (.slice A_row23_1 l_row23_1.length c_row23_1) 96 k_Slot.sz l_row23_1.length cs_row23_1] [RE.rd k_Slot A1 cp2 a0.Slots, RE.chunks k_Slot cs_row23_1 l_row23_1]) => (x_loadA (j := 0) (vs := [.slice A_row23_1 l_row23_1.length c_row23_1]) ag76 (by rfl) (H.cells (i := 0) (by rfl)) (by rfl) (by rfl))) ?_
   refine PR_free (by rfl) (by rfl) (by rfl) (by exact wn0 rfl) (fun wS => (x_move (v := .int .i64 y7_1) (by rfl))) ?_
   refine PR_free (by rfl) (by rfl) (by rfl) (by exact wn0 rfl) (fun wS => (x_fieldAddr fo76_0 (by rfl))) ?_
   refine PR_take (by rfl) (by rfl) (by rfl) (by exact wn0 rfl) (fun wS (H : Sep ok w wS [.blk b5 76 [.slice A_row23_1 l_row23_1.length c_row23_1], .hole, .blk b9 81 [.int .i64 0, .int .i64 0], .row (.slice A_row23_1 l_row23_1.length c_row23_1) 96 k_Slot.sz l_row23_1.length cs_row23_1] [RE.rd k_Slot A1 cp2 a0.Slots, RE.chunks k_Slot cs_row23_1 l_row23_1]) => (x_load (j := 0) (v := .slice A_row23_1 l_row23_1.length c_row23_1) sc74 (by rfl) (H.cells (i := 0) (by rfl)) (by rfl))) ?_
   refine PR_free (by rfl) (by rfl) (by rfl) (by exact wn0 rfl) (fun wS => (x_move (v := .int .i64 y7_1) (by rfl))) ?_
   obtain ⟨el66, h67, h68, he69, hm⟩ := idx_some hm
   obtain ⟨g71, _, hA70, _, _⟩ := H.rowIdx (i := 3) (j := 1) (by rfl) (by rfl) he69
   refine PR_free (by rfl) (by rfl) (by rfl) (by exact wn0 rfl) (fun wS => (x_indexAddr sl74 sz96 (by rfl) (by rfl) hA70 h67 h68)) ?_
   refine PR_free (by rfl) (by rfl) (by rfl) (by exact wn0 rfl) (fun wS => (x_fieldAddr fo96_0 (by rfl))) ?_
   refine PR_take (by rfl) (by rfl) (by rfl) (by exact wn0 rfl) (fun wS (H : Sep ok w wS [.blk b5 76 [.slice A_row23_1 l_row23_1.length c_row23_1], .hole, .blk b9 81 [.int .i64 0, .int .i64 0], .row (.slice A_row23_1 l_row23_1.length c_row23_1) 96 k_Slot.sz l_row23_1.length cs_row23_1] [RE.rd k_Slot A1 cp2 a0.Slots, RE.chunks k_Slot cs_row23_1 l_row23_1]) => (x_load (j := 0) (v := .int .i64 el66.Gen) sc3 (by rfl) (H.rowFlatAt (n := 2) (i := 3) (j := 1) (by rfl) (by rfl) hA70 he69) (by rfl))) ?_
   refine PR_free (by rfl) (by rfl) (by rfl) (by exact wn0 rfl) (fun wS => (x_build (vs := [(0, .int .i64 y7_1), (1, .int .i64 el66.Gen)]) (cs := [.int .i64 y7_1, .int .i64 el66.Gen]) (by rfl) (by kernel_rfl))) ?_
   refine PR_run (by rfl) (O_store (i := 1) (off := 0) (by exact wn0 rfl) (by rfl) (by rfl) H (by rfl) (vs := [.slice A_row23_1 l_row23_1.length c_row23_1]) (by rfl) sz76 (by rfl) (by rfl) (by rfl) (fun w73 (H : Sep ok w w73 [.blk b5 76 [.slice A_row23_1 l_row23_1.length c_row23_1], .blk b7 76 [.slice A_row23_1 l_row23_1.length c_row23_1], .blk b9 81 [.int .i64 0, .int .i64 0], .row (.slice A_row23_1 l_row23_1.length c_row23_1) 96 k_Slot.sz l_row23_1.length cs_row23_1] [RE.rd k_Slot A1 cp2 a0.Slots, RE.chunks k_Slot cs_row23_1 l_row23_1]) => ⟨(Sep.holeL H 1), ?_⟩))
   refine PR_tail (by rfl) (O_store (i := 2) (off := 0) (by exact wn0 rfl) (by rfl) (by rfl) H (by rfl) (vs := [.int .i64 y7_1, .int .i64 el66.Gen]) (by rfl) sz81 (by rfl) (by rfl) (by rfl) (fun w74 (H : Sep ok w w74 [.blk b5 76 [.slice A_row23_1 l_row23_1.length c_row23_1], .blk b7 76 [.slice A_row23_1 l_row23_1.length c_row23_1], .blk b9 81 [.int .i64 y7_1, .int .i64 el66.Gen], .row (.slice A_row23_1 l_row23_1.length c_row23_1) 96 k_Slot.sz l_row23_1.length cs_row23_1] [RE.rd k_Slot A1 cp2 a0.Slots, RE.chunks k_Slot cs_row23_1 l_row23_1]) => ?_))
   refine PR_free (by rfl) (by rfl) (by rfl) (by exact wn0 rfl) (fun wS => (x_assign (v := .int .i64 0) (by rfl))) ?_
   refine PR_nil ?_
   refine W_ret ?_
   have H : Sep ok w w74 [.blk b5 76 [.slice A_row23_1 l_row23_1.length c_row23_1], .blk b7 76 [.slice A_row23_1 l_row23_1.length c_row23_1], .blk b9 81 [.int .i64 y7_1, .int .i64 el66.Gen], .hole] [RE.rd k_Slot A1 cp2 a0.Slots, RE.rd k_Slot A_row23_1 c_row23_1 l_row23_1] := H.frozen (i := 3) (j := 1) (by rfl) (by rfl)
   obtain rfl := Option.some.inj hm
   exact ⟨[.agg #[.slice A_row23_1 l_row23_1.length c_row23_1], .agg #[.int .i64 y7_1, .int .i64 el66.Gen], .int .i64 0], (.cellA (by rfl) ag76 (H.cells (i := 1) (by rfl)) (by rfl) (.cellA (by rfl) ag81 (H.cells (i := 2) (by rfl)) (by rfl) (.tmp (by rfl) rfl))), A_row23_1, c_row23_1, rfl, (H.forgetAll).pick [1]⟩

set_option maxRecDepth 100000 in
set_option maxHeartbeats 4000000 in
theorem c94n (ok : Okp) (hno : ∀ k, ¬ ok.wr k) (K : Nat) (w : World) (a0 : S_Arena) (A1 : Option Addr) (cp2 : Nat) (hR3 : Rd k_Slot w ok A1 cp2 a0.Slots) (res : S_Arena × S_Handle × Int) (hm : m94 K a0 = some res) :
  Calls Try.prog 94 #[.agg #[.slice A1 a0.Slots.length cp2]] w (fun e w' => ∃ (A0_ : Option Addr) (c0_ : Nat), e = .returned (tup [.agg #[.slice A0_ res.1.Slots.length c0_], .agg #[.int .i64 res.2.1.Slot, .int .i64 res.2.1.Gen], .int .i64 res.2.2]) ∧ Sep ok w w' [] [RE.fr w.heap.size k_Slot A0_ c0_ res.1.Slots]) := by
 refine calls_W (args := [.agg #[.slice A1 a0.Slots.length cp2]]) Try.func94 rfl Try.ntmps94 Try.results94 rfl fun r hr => ?_
 obtain ⟨r1, rfl⟩ := regen (r := r) [(0, .agg #[.slice A1 a0.Slots.length cp2])] ⟨hr 0 _ rfl, trivial⟩
 have H : Sep ok w w [] [RE.rd k_Slot A1 cp2 a0.Slots] := Sep.arg (Sep.start ok w) (re := RE.rd k_Slot A1 cp2 a0.Slots) rfl rfl hR3
 unfold m94 at hm
 refine W_seq ?_
 refine W_region ?_
 refine RL_cons (O_box (by exact wn0 rfl) (by rfl) (by rfl) (by rfl) H (fun w6 b5 (H : Sep ok w w6 [.blk b5 76 [.slice A1 a0.Slots.length cp2]] [RE.rd k_Slot A1 cp2 a0.Slots]) => ?_))
 refine RL_cons (O_alloc (by exact wn0 rfl) (by rfl) ze76 (by rfl) H (fun w8 b7 (H : Sep ok w w8 [.blk b5 76 [.slice A1 a0.Slots.length cp2], .blk b7 76 [.slice none 0 0]] [RE.rd k_Slot A1 cp2 a0.Slots]) => ?_))
 refine RL_cons (O_alloc (by exact wn0 rfl) (by rfl) ze81 (by rfl) H (fun w10 b9 (H : Sep ok w w10 [.blk b5 76 [.slice A1 a0.Slots.length cp2], .blk b7 76 [.slice none 0 0], .blk b9 81 [.int .i64 0, .int .i64 0]] [RE.rd k_Slot A1 cp2 a0.Slots]) => ?_))
 refine RL_p (x_assign (v := .int .i64 0) (by rfl)) ?_
 refine RL_nil ?_
 refine W_seq ?_
 refine W_seq ?_
 refine W_region ?_
 refine RL_p (x_loadA (j := 0) (vs := [.slice A1 a0.Slots.length cp2]) ag76 (by rfl) (H.cells (i := 0) (by rfl)) (by rfl) (by rfl)) ?_
 obtain ⟨v12, hv11, hm⟩ := bind_some hm
 refine RL_cons (O_call (by exact wn0 rfl) (by rfl) (by rfl) (x_callL (by rfl) (args := [.agg #[.slice A1 a0.Slots.length cp2]]) (by rfl) (cf88 _ _)) (c88 okT K w10 a0 A1 cp2 (H.rd (i := 0) (by rfl)).any v12 hv11) ?_)
 rintro e w13 ⟨rfl, H2⟩
 have H : Sep ok w w13 [.blk b5 76 [.slice A1 a0.Slots.length cp2], .blk b7 76 [.slice none 0 0], .blk b9 81 [.int .i64 0, .int .i64 0]] [RE.rd k_Slot A1 cp2 a0.Slots] := H.below H2.base
 clear H2
 refine ⟨_, rfl, ?_⟩
 show RL _ _ _ _ _ _ _
 refine RL_p (x_assign (v := .int .i64 v12) (by rfl)) ?_
 refine RL_nil ?_
 refine W_seq ?_
 refine W_region ?_
 refine RL_p (x_move (v := .int .i64 v12) (by rfl)) ?_
 refine RL_p (x_neq (by rfl) (by rfl)) ?_
 refine RL_nil ?_
 refine W_cond (by rfl) (fun hb => ?_) (fun hb => ?_)
 ·have hm := cond_t hb hm
  refine W_seq ?_
  refine W_region ?_
  refine RL_p (x_build (vs := []) (cs := [.slice none 0 0]) (by rfl) (by kernel_rfl)) ?_
  refine RL_p (x_build (vs := []) (cs := [.int .i64 0, .int .i64 0]) (by rfl) (by kernel_rfl)) ?_
  refine RL_p (x_move (v := .int .i64 v12) (by rfl)) ?_
  refine RL_cons (O_store (i := 1) (off := 0) (by exact wn0 rfl) (by rfl) (by rfl) H (by rfl) (vs := [.slice none 0 0]) (by rfl) sz76 (by rfl) (by rfl) (by rfl) (fun w14 (H : Sep ok w w14 [.blk b5 76 [.slice A1 a0.Slots.length cp2], .blk b7 76 [.slice none 0 0], .blk b9 81 [.int .i64 0, .int .i64 0]] [RE.rd k_Slot A1 cp2 a0.Slots]) => ?_))
  refine RL_cons (O_store (i := 2) (off := 0) (by exact wn0 rfl) (by rfl) (by rfl) H (by rfl) (vs := [.int .i64 0, .int .i64 0]) (by rfl) sz81 (by rfl) (by rfl) (by rfl) (fun w15 (H : Sep ok w w15 [.blk b5 76 [.slice A1 a0.Slots.length cp2], .blk b7 76 [.slice none 0 0], .blk b9 81 [.int .i64 0, .int .i64 0]] [RE.rd k_Slot A1 cp2 a0.Slots]) => ?_))
  refine RL_p (x_assign (v := .int .i64 v12) (by rfl)) ?_
  refine RL_nil ?_
  refine W_ret ?_
  have H : Sep ok w w15 [.blk b5 76 [.slice A1 a0.Slots.length cp2], .blk b7 76 [.slice none 0 0], .blk b9 81 [.int .i64 0, .int .i64 0]] [RE.rd k_Slot A1 cp2 a0.Slots, RE.fr w.heap.size k_Slot none 0 ([])] := Sep.also H (re := RE.fr w.heap.size k_Slot none 0 ([])) (Rd.nil (by decide))
  obtain rfl := Option.some.inj hm
  exact ⟨[.agg #[.slice none 0 0], .agg #[.int .i64 0, .int .i64 0], .int .i64 v12], (.cellA (by rfl) ag76 (H.cells (i := 1) (by rfl)) (by rfl) (.cellA (by rfl) ag81 (H.cells (i := 2) (by rfl)) (by rfl) (.tmp (by rfl) rfl))), none, 0, rfl, (H.forgetAll).pick [1]⟩
 ·have hm := cond_f hb hm
  refine W_skip ?_
  refine W_seq ?_
  refine W_region ?_
  refine RL_p (x_loadA (j := 0) (vs := [.slice A1 a0.Slots.length cp2]) ag76 (by rfl) (H.cells (i := 0) (by rfl)) (by rfl) (by rfl)) ?_
  obtain ⟨v18, hv17, hm⟩ := bind_some hm
  refine RL_cons (O_call (by exact wn0 rfl) (by rfl) (by rfl) (x_callL (by rfl) (args := [.agg #[.slice A1 a0.Slots.length cp2]]) (by rfl) (cf102 _ _)) (c102 (okS ok w [.blk b5 76 [.slice A1 a0.Slots.length cp2], .blk b7 76 [.slice none 0 0], .blk b9 81 [.int .i64 0, .int .i64 0]]) K w13 a0 A1 cp2 (H.rd (i := 0) (by rfl)) v18 hv17) ?_)
  rintro e w19 ⟨A20, cp21, cs22, rfl, H2⟩
  have H : Sep ok w w19 [.blk b5 76 [.slice A1 a0.Slots.length cp2], .blk b7 76 [.slice none 0 0], .blk b9 81 [.int .i64 0, .int .i64 0], .row (.slice A20 v18.Slots.length cp21) 96 k_Slot.sz v18.Slots.length cs22] [RE.rd k_Slot A1 cp2 a0.Slots, RE.chunks k_Slot cs22 v18.Slots] := H.call H2
  clear H2
  refine ⟨_, rfl, ?_⟩
  show RL _ _ _ _ _ _ _
  refine RL_cons (O_store (i := 0) (off := 0) (by exact wn0 rfl) (by rfl) (by rfl) H (by rfl) (vs := [.slice A20 v18.Slots.length cp21]) (by rfl) sz76 (by rfl) (by rfl) (by rfl) (fun w25 (H : Sep ok w w25 [.blk b5 76 [.slice A20 v18.Slots.length cp21], .blk b7 76 [.slice none 0 0], .blk b9 81 [.int .i64 0, .int .i64 0], .row (.slice A20 v18.Slots.length cp21) 96 k_Slot.sz v18.Slots.length cs22] [RE.rd k_Slot A1 cp2 a0.Slots, RE.chunks k_Slot cs22 v18.Slots]) => ?_))
  refine RL_nil ?_
  refine W_seq ?_
  refine W_region ?_
  refine RL_p (x_makeFuncF (us := [.int .i64 1073741824]) (vs := []) (by rfl) (by rfl)) ?_
  refine RL_p (x_assign (v := .func (.func 125) #[.int .i64 1073741824] #[]) (by rfl)) ?_
  refine RL_nil ?_
  refine W_seq ?_
  refine W_region ?_
  refine RL_p (x_fieldAddr fo76_0 (by rfl)) ?_
  refine RL_p (x_load (j := 0) (v := .slice A20 v18.Slots.length cp21) sc74 (by rfl) (H.cells (i := 0) (by rfl)) (by rfl)) ?_
  refine RL_p (x_move (v := .func (.func 125) #[.int .i64 1073741824] #[]) (by rfl)) ?_
  obtain ⟨v27, hv26, hm⟩ := bind_some hm
  refine RL_cons (O_call (by exact wn0 rfl) (by rfl) (by rfl) (x_callL (by rfl) (args := [.slice A20 v18.Slots.length cp21, .func (.func 125) #[.int .i64 1073741824] #[]]) (by rfl) (cf126 _ _)) (c126 (fun (_ : Unit) wS => Sep ok w wS [.blk b5 76 [.slice A20 v18.Slots.length cp21], .blk b7 76 [.slice none 0 0], .blk b9 81 [.int .i64 0, .int .i64 0], .row (.slice A20 v18.Slots.length cp21) 96 k_Slot.sz v18.Slots.length cs22] [RE.rd k_Slot A1 cp2 a0.Slots, RE.chunks k_Slot cs22 v18.Slots]) (fun (_ : Unit) (x : S_Slot) => (m125 K 1073741824 x).map fun b => (b, ())) 125 [.int .i64 1073741824] [] v18.Slots A20 cp21 (fun _ wS (H : Sep ok w wS [.blk b5 76 [.slice A20 v18.Slots.length cp21], .blk b7 76 [.slice none 0 0], .blk b9 81 [.int .i64 0, .int .i64 0], .row (.slice A20 v18.Slots.length cp21) 96 k_Slot.sz v18.Slots.length cs22] [RE.rd k_Slot A1 cp2 a0.Slots, RE.chunks k_Slot cs22 v18.Slots]) => (H.rowRd (i := 3) (j := 1) (by rfl) (by rfl))) cf125 (fun _ wS x q (H : Sep ok w wS [.blk b5 76 [.slice A20 v18.Slots.length cp21], .blk b7 76 [.slice none 0 0], .blk b9 81 [.int .i64 0, .int .i64 0], .row (.slice A20 v18.Slots.length cp21) 96 k_Slot.sz v18.Slots.length cs22] [RE.rd k_Slot A1 cp2 a0.Slots, RE.chunks k_Slot cs22 v18.Slots]) hq => by obtain ⟨b, hb, rfl⟩ := Option.map_eq_some_iff.1 hq; exact (c125 okT K wS 1073741824 x  b hb).mono fun e w_ h => ⟨h.1, H.below h.2.base⟩) () w25 H v27 hv26) ?_)
  rintro e w28 ⟨rfl, H⟩
  have H : Sep ok w w28 [.blk b5 76 [.slice A20 v18.Slots.length cp21], .blk b7 76 [.slice none 0 0], .blk b9 81 [.int .i64 0, .int .i64 0], .row (.slice A20 v18.Slots.length cp21) 96 k_Slot.sz v18.Slots.length cs22] [RE.rd k_Slot A1 cp2 a0.Slots, RE.chunks k_Slot cs22 v18.Slots] := H
  refine ⟨_, rfl, ?_⟩
  show RL _ _ _ _ _ _ _
  refine RL_p (x_assign (v := .int .i64 v27.1) (by rfl)) ?_
  refine RL_nil ?_
  refine W_join (fun r' w' => ∃ (l_row23_1 : (List S_Slot)), ∃ (y7_1 : Int), ∃ (A_row23_1 : Option Addr), ∃ (c_row23_1 : Nat), ∃ (cs_row23_1 : List Value), m94_j1 K l_row23_1 y7_1 = some res ∧ Agr [(1, .pointer (some ⟨b5, 0, none⟩)), (2, .pointer (some ⟨b7, 0, none⟩)), (3, .pointer (some ⟨b9, 0, none⟩)), (7, .int .i64 y7_1)] r' ∧ Sep ok w w' [.blk b5 76 [.slice A_row23_1 l_row23_1.length c_row23_1], .blk b7 76 [.slice none 0 0], .blk b9 81 [.int .i64 0, .int .i64 0], .row (.slice A_row23_1 l_row23_1.length c_row23_1) 96 k_Slot.sz l_row23_1.length cs_row23_1] [RE.rd k_Slot A1 cp2 a0.Slots, RE.chunks k_Slot cs_row23_1 l_row23_1]) ?_ ?_
  ·show W _ _ _ _ _ _
   refine W_block ?_
   refine W_seq ?_
   refine W_region ?_
   refine RL_p (x_move (v := .int .i64 v27.1) (by rfl)) ?_
   refine RL_p (x_geq (by rfl) (by rfl)) ?_
   refine RL_p (x_assign (v := .bool (decide (0 ≤ v27.1))) (by rfl)) ?_
   refine RL_nil ?_
   refine W_cond (by rfl) (fun hb => ?_) (fun hb => ?_)
   ·have hm := cond_t hb hm
    refine W_draw [.free 0, .take 1, .free 2, .free 3, .take 4, .free 5, .free 6, .free 7, .take 8, .free 9, .free 10, .free 11, .tail 12] (fun wS => Sep ok w wS [.blk b5 76 [.slice A20 v18.Slots.length cp21], .blk b7 76 [.slice none 0 0], .blk b9 81 [.int .i64 0, .int .i64 0], .row (.slice A20 v18.Slots.length cp21) 96 k_Slot.sz v18.Slots.length cs22] [RE.rd k_Slot A1 cp2 a0.Slots, RE.chunks k_Slot cs22 v18.Slots]) [12] [0, 2, 3, 5, 6, 7, 9, 10, 11] mixed0 (by kernel_rfl) (by kernel_rfl) (by kernel_rfl) (by rfl) (by exact H.drew) ?_
    obtain ⟨w29, hW⟩ : ∃ W : World, W = { w28 with drawn := w28.drawn + 1 } := ⟨_, rfl⟩
    rw [← hW]
    have H : Sep ok w w29 [.blk b5 76 [.slice A20 v18.Slots.length cp21], .blk b7 76 [.slice none 0 0], .blk b9 81 [.int .i64 0, .int .i64 0], .row (.slice A20 v18.Slots.length cp21) 96 k_Slot.sz v18.Slots.length cs22] [RE.rd k_Slot A1 cp2 a0.Slots, RE.chunks k_Slot cs22 v18.Slots] := by rw [hW]; exact H.drew
    clear hW
    refine PR_free (by rfl) (by rfl) (by rfl) (by exact wn0 rfl) (fun wS => (x_fieldAddr fo76_0 (by rfl))) ?_
    refine PR_take (by rfl) (by rfl) (by rfl) (by exact wn0 rfl) (fun wS (H : Sep ok w wS [.blk b5 76 [.slice A20 v18.Slots.length cp21], .blk b7 76 [.slice none 0 0], .blk b9 81 [.int .i64 0, .int .i64 0], .row (.slice A20 v18.Slots.length cp21) 96 k_Slot.sz v18.Slots.length cs22] [RE.rd k_Slot A1 cp2 a0.Slots, RE.chunks k_Slot cs22 v18.Slots]) => (x_load (j := 0) (v := .slice A20 v18.Slots.length cp21) sc74 (by rfl) (H.cells (i := 0) (by rfl)) (by rfl))) ?_
    refine PR_free (by rfl) (by rfl) (by rfl) (by exact wn0 rfl) (fun wS => (x_move (v := .int .i64 v27.1) (by rfl))) ?_
    refine PR_free (by rfl) (by rfl) (by rfl) (by exact wn0 rfl) (fun wS => (x_fieldAddr fo76_0 (by rfl))) ?_
    refine PR_take (by rfl) (by rfl) (by rfl) (by exact wn0 rfl) (fun wS (H : Sep ok w wS [.blk b5 76 [.slice A20 v18.Slots.length cp21], .blk b7 76 [.slice none 0 0], .blk b9 81 [.int .i64 0, .int .i64 0], .row (.slice A20 v18.Slots.length cp21) 96 k_Slot.sz v18.Slots.length cs22] [RE.rd k_Slot A1 cp2 a0.Slots, RE.chunks k_Slot cs22 v18.Slots]) => (x_load (j := 0) (v := .slice A20 v18.Slots.length cp21) sc74 (by rfl) (H.cells (i := 0) (by rfl)) (by rfl))) ?_
    refine PR_free (by rfl) (by rfl) (by rfl) (by exact wn0 rfl) (fun wS => (x_move (v := .int .i64 v27.1) (by rfl))) ?_
    obtain ⟨el30, h31, h32, he33, hm⟩ := idx_some hm
    obtain ⟨g35, _, hA34, _, _⟩ := H.rowIdx (i := 3) (j := 1) (by rfl) (by rfl) he33
    refine PR_free (by rfl) (by rfl) (by rfl) (by exact wn0 rfl) (fun wS => (x_indexAddr sl74 sz96 (by rfl) (by rfl) hA34 h31 h32)) ?_
    refine PR_free (by rfl) (by rfl) (by rfl) (by exact wn0 rfl) (fun wS => (x_fieldAddr fo96_0 (by rfl))) ?_
    refine PR_take (by rfl) (by rfl) (by rfl) (by exact wn0 rfl) (fun wS (H : Sep ok w wS [.blk b5 76 [.slice A20 v18.Slots.length cp21], .blk b7 76 [.slice none 0 0], .blk b9 81 [.int .i64 0, .int .i64 0], .row (.slice A20 v18.Slots.length cp21) 96 k_Slot.sz v18.Slots.length cs22] [RE.rd k_Slot A1 cp2 a0.Slots, RE.chunks k_Slot cs22 v18.Slots]) => (x_load (j := 0) (v := .int .i64 el30.Gen) sc3 (by rfl) (H.rowFlatAt (n := 2) (i := 3) (j := 1) (by rfl) (by rfl) hA34 he33) (by rfl))) ?_
    obtain ⟨x37, ex37, qx37, ux37, hm⟩ := ck_some hm
    refine PR_free (by rfl) (by rfl) (by rfl) (by exact wn0 rfl) (fun wS => (x_add (by rfl) (by rfl) ux37)) ?_
    refine PR_free (by rfl) (by rfl) (by rfl) (by exact wn0 rfl) (fun wS => (x_build (vs := [(0, .int .i64 x37), (1, .bool true)]) (cs := [.int .i64 x37, .bool true]) (by rfl) (by kernel_rfl))) ?_
    obtain ⟨el38, h39, h40, he41, hm⟩ := idx_some hm
    obtain ⟨g43, _, hA42, _, _⟩ := H.rowIdx (i := 3) (j := 1) (by rfl) (by rfl) he41
    refine PR_free (by rfl) (by rfl) (by rfl) (by exact wn0 rfl) (fun wS => (x_indexAddr sl74 sz96 (by rfl) (by rfl) hA42 h39 h40)) ?_
    obtain ⟨l47, hl48, hm⟩ := lete_some hm
    refine PR_tail (by rfl) (O_storeRow (D := k_Slot) (i := 3) (j := 1) (off := 0) (m := v27.1) (a := el38) (b := (⟨x37, true⟩ : S_Slot)) (vs := [.int .i64 x37, .bool true]) (by exact wn0 rfl) H (by rfl) (by rfl) hA42 (by rfl) (by rfl) he41 (by rfl) sz96 (by rfl) (by rfl) (by intro ce hce; obtain rfl := hce; rfl) hl48 (fun w45 cs46 (H : Sep ok w w45 [.blk b5 76 [.slice A20 v18.Slots.length cp21], .blk b7 76 [.slice none 0 0], .blk b9 81 [.int .i64 0, .int .i64 0], .row (.slice A20 l47.length cp21) 96 k_Slot.sz l47.length cs46] [RE.rd k_Slot A1 cp2 a0.Slots, RE.chunks k_Slot cs46 l47]) => ?_))
    refine PR_nil ?_
    have hn49 : v18.Slots.length = l47.length := by rw [← hl48]; exact (List.length_set ..).symm
    have H : Sep ok w w45 [.blk b5 76 [.slice A20 l47.length cp21], .blk b7 76 [.slice none 0 0], .blk b9 81 [.int .i64 0, .int .i64 0], .row (.slice A20 l47.length cp21) 96 k_Slot.sz l47.length cs46] [RE.rd k_Slot A1 cp2 a0.Slots, RE.chunks k_Slot cs46 l47] := by (try rw [hn49] at H); exact H
    exact ⟨l47, v27.1, A20, cp21, cs46, hm, ⟨rfl, rfl, rfl, rfl, trivial⟩, H⟩
   ·have hm := cond_f hb hm
    refine W_seq ?_
    refine W_region ?_
    refine RL_p (x_fieldAddr fo76_0 (by rfl)) ?_
    refine RL_p (x_load (j := 0) (v := .slice A20 v18.Slots.length cp21) sc74 (by rfl) (H.cells (i := 0) (by rfl)) (by rfl)) ?_
    refine RL_p (x_len sl74 (by rfl)) ?_
    refine RL_p (x_eql (by rfl) (by rfl)) ?_
    refine RL_p (x_assign (v := .bool ((v18.Slots.length : Int) == 128)) (by rfl)) ?_
    refine RL_nil ?_
    refine W_cond (by rfl) (fun hb => ?_) (fun hb => ?_)
    ·have hm := cond_t hb hm
     refine W_seq ?_
     refine W_region ?_
     refine RL_p (x_build (vs := []) (cs := [.slice none 0 0]) (by rfl) (by kernel_rfl)) ?_
     refine RL_p (x_build (vs := []) (cs := [.int .i64 0, .int .i64 0]) (by rfl) (by kernel_rfl)) ?_
     refine RL_cons (O_store (i := 1) (off := 0) (by exact wn0 rfl) (by rfl) (by rfl) H (by rfl) (vs := [.slice none 0 0]) (by rfl) sz76 (by rfl) (by rfl) (by rfl) (fun w50 (H : Sep ok w w50 [.blk b5 76 [.slice A20 v18.Slots.length cp21], .blk b7 76 [.slice none 0 0], .blk b9 81 [.int .i64 0, .int .i64 0], .row (.slice A20 v18.Slots.length cp21) 96 k_Slot.sz v18.Slots.length cs22] [RE.rd k_Slot A1 cp2 a0.Slots, RE.chunks k_Slot cs22 v18.Slots]) => ?_))
     refine RL_cons (O_store (i := 2) (off := 0) (by exact wn0 rfl) (by rfl) (by rfl) H (by rfl) (vs := [.int .i64 0, .int .i64 0]) (by rfl) sz81 (by rfl) (by rfl) (by rfl) (fun w51 (H : Sep ok w w51 [.blk b5 76 [.slice A20 v18.Slots.length cp21], .blk b7 76 [.slice none 0 0], .blk b9 81 [.int .i64 0, .int .i64 0], .row (.slice A20 v18.Slots.length cp21) 96 k_Slot.sz v18.Slots.length cs22] [RE.rd k_Slot A1 cp2 a0.Slots, RE.chunks k_Slot cs22 v18.Slots]) => ?_))
     refine RL_p (x_assign (v := .int .i64 9) (by rfl)) ?_
     refine RL_nil ?_
     refine W_ret ?_
     have H : Sep ok w w51 [.blk b5 76 [.slice A20 v18.Slots.length cp21], .blk b7 76 [.slice none 0 0], .blk b9 81 [.int .i64 0, .int .i64 0], .row (.slice A20 v18.Slots.length cp21) 96 k_Slot.sz v18.Slots.length cs22] [RE.rd k_Slot A1 cp2 a0.Slots, RE.chunks k_Slot cs22 v18.Slots, RE.fr w.heap.size k_Slot none 0 ([])] := Sep.also H (re := RE.fr w.heap.size k_Slot none 0 ([])) (Rd.nil (by decide))
     obtain rfl := Option.some.inj hm
     exact ⟨[.agg #[.slice none 0 0], .agg #[.int .i64 0, .int .i64 0], .int .i64 9], (.cellA (by rfl) ag76 (H.cells (i := 1) (by rfl)) (by rfl) (.cellA (by rfl) ag81 (H.cells (i := 2) (by rfl)) (by rfl) (.tmp (by rfl) rfl))), none, 0, rfl, (H.forgetAll).pick [2]⟩
    ·have hm := cond_f hb hm
     refine W_seq ?_
     refine W_region ?_
     refine RL_p (x_fieldAddr fo76_0 (by rfl)) ?_
     refine RL_p (x_load (j := 0) (v := .slice A20 v18.Slots.length cp21) sc74 (by rfl) (H.cells (i := 0) (by rfl)) (by rfl)) ?_
     refine RL_p (x_len sl74 (by rfl)) ?_
     refine RL_p (x_assign (v := .int .i64 (v18.Slots.length : Int)) (by rfl)) ?_
     refine RL_nil ?_
     refine W_region ?_
     refine RL_p (x_fieldAddr fo76_0 (by rfl)) ?_
     refine RL_p (x_load (j := 0) (v := .slice A20 v18.Slots.length cp21) sc74 (by rfl) (H.cells (i := 0) (by rfl)) (by rfl)) ?_
     refine RL_p (x_build (vs := [(0, .int .i64 1), (1, .bool true)]) (cs := [.int .i64 1, .bool true]) (by rfl) (by kernel_rfl)) ?_
     refine RL_cons (O_buildSlice (vs := [(0, .agg #[.int .i64 1, .bool true])]) (cs := [.int .i64 1, .bool true]) (by exact wn0 rfl) (by rfl) sl74 sz96 ze96 (by rfl) (by rfl) (by rfl) (by kernel_rfl) H (fun w54 b53 (H : Sep ok w w54 [.blk b5 76 [.slice A20 v18.Slots.length cp21], .blk b7 76 [.slice none 0 0], .blk b9 81 [.int .i64 0, .int .i64 0], .row (.slice A20 v18.Slots.length cp21) 96 k_Slot.sz v18.Slots.length cs22, .blk b53 96 [.int .i64 1, .bool true]] [RE.rd k_Slot A1 cp2 a0.Slots, RE.chunks k_Slot cs22 v18.Slots]) => ?_))
     obtain ⟨l59, hl60, hb61, hm⟩ := apd_some hm
     refine RL_cons (O_append (D := k_Slot) (i := 3) (j := 1) (o := 0) (y := (⟨1, true⟩ : S_Slot)) (by exact wn0 rfl) (by rfl) (by rfl) (by rfl) H (by rfl) (by rfl) (H.cells (i := 4) (by rfl)) rfl hl60 sl74 sz96 by96 ze96 (by rfl) (by rfl) hb61 (by rfl) (fun w55 A56 cp57 cs58 (H : Sep ok w w55 [.blk b5 76 [.slice A20 v18.Slots.length cp21], .blk b7 76 [.slice none 0 0], .blk b9 81 [.int .i64 0, .int .i64 0], .row (.slice A56 l59.length cp57) 96 k_Slot.sz l59.length cs58, .blk b53 96 [.int .i64 1, .bool true]] [RE.rd k_Slot A1 cp2 a0.Slots, RE.chunks k_Slot cs58 l59]) => ?_))
     refine RL_p (x_fieldAddr fo76_0 (by rfl)) ?_
     refine RL_cons (O_store (i := 0) (off := 0) (by exact wn0 rfl) (by rfl) (by rfl) H (by rfl) (vs := [.slice A56 l59.length cp57]) (by rfl) sz74 (by rfl) (by rfl) (by rfl) (fun w62 (H : Sep ok w w62 [.blk b5 76 [.slice A56 l59.length cp57], .blk b7 76 [.slice none 0 0], .blk b9 81 [.int .i64 0, .int .i64 0], .row (.slice A56 l59.length cp57) 96 k_Slot.sz l59.length cs58, .blk b53 96 [.int .i64 1, .bool true]] [RE.rd k_Slot A1 cp2 a0.Slots, RE.chunks k_Slot cs58 l59]) => ?_))
     refine RL_nil ?_
     exact ⟨l59, (v18.Slots.length : Int), A56, cp57, cs58, hm, ⟨rfl, rfl, rfl, rfl, trivial⟩, (H).takeL 4⟩
  ·rintro r' w' ⟨l_row23_1, y7_1, A_row23_1, c_row23_1, cs_row23_1, hm, hA, H⟩
   obtain ⟨r63, rfl⟩ := regen _ hA; clear hA
   obtain ⟨w64, rfl⟩ : ∃ W : World, W = w' := ⟨_, rfl⟩
   unfold m94_j1 at hm
   refine W_seq ?_
   refine W_draw [.take 0, .free 1, .free 2, .take 3, .free 4, .free 5, .free 6, .take 7, .free 8, .run 9, .tail 10, .free 11] (fun wS => Sep ok w wS [.blk b5 76 [.slice A_row23_1 l_row23_1.length c_row23_1], .hole, .blk b9 81 [.int .i64 0, .int .i64 0], .row (.slice A_row23_1 l_row23_1.length c_row23_1) 96 k_Slot.sz l_row23_1.length cs_row23_1] [RE.rd k_Slot A1 cp2 a0.Slots, RE.chunks k_Slot cs_row23_1 l_row23_1]) [10] [1, 2, 4, 5, 6, 8, 11] mixed0 (by kernel_rfl) (by kernel_rfl) (by kernel_rfl) (by rfl) (by exact (Sep.holeL H.drew 1)) ?_
   obtain ⟨w65, hW⟩ : ∃ W : World, W = { w64 with drawn := w64.drawn + 1 } := ⟨_, rfl⟩
   rw [← hW]
   have H : Sep ok w w65 [.blk b5 76 [.slice A_row23_1 l_row23_1.length c_row23_1], .blk b7 76 [.slice none 0 0], .blk b9 81 [.int .i64 0, .int .i64 0], .row (.slice A_row23_1 l_row23_1.length c_row23_1) 96 k_Slot.sz l_row23_1.length cs_row23_1] [RE.rd k_Slot A1 cp2 a0.Slots, RE.chunks k_Slot cs_row23_1 l_row23_1] := by rw [hW]; exact H.drew
   clear hW
   refine PR_take (by rfl) (by rfl) (by rfl) (by exact wn0 rfl) (fun wS (H : Sep ok w wS [.blk b5 76 [.slice A_row23_1 l_row23_1.length c_row23_1], .hole, .blk b9 81 [.int .i64 0, .int .i64 0], .row (.slice A_row23_1 l_row23_1.length c_row23_1) 96 k_Slot.sz l_row23_1.length cs_row23_1] [RE.rd k_Slot A1 cp2 a0.Slots, RE.chunks k_Slot cs_row23_1 l_row23_1]) => (x_loadA (j := 0) (vs := [.slice A_row23_1 l_row23_1.length c_row23_1]) ag76 (by rfl) (H.cells (i := 0) (by rfl)) (by rfl) (by rfl))) ?_
   refine PR_free (by rfl) (by rfl) (by rfl) (by exact wn0 rfl) (fun wS => (x_move (v := .int .i64 y7_1) (by rfl))) ?_
   refine PR_free (by rfl) (by rfl) (by rfl) (by exact wn0 rfl) (fun wS => (x_fieldAddr fo76_0 (by rfl))) ?_
   refine PR_take (by rfl) (by rfl) (by rfl) (by exact wn0 rfl) (fun wS (H : Sep ok w wS [.blk b5 76 [.slice A_row23_1 l_row23_1.length c_row23_1], .hole, .blk b9 81 [.int .i64 0, .int .i64 0], .row (.slice A_row23_1 l_row23_1.length c_row23_1) 96 k_Slot.sz l_row23_1.length cs_row23_1] [RE.rd k_Slot A1 cp2 a0.Slots, RE.chunks k_Slot cs_row23_1 l_row23_1]) => (x_load (j := 0) (v := .slice A_row23_1 l_row23_1.length c_row23_1) sc74 (by rfl) (H.cells (i := 0) (by rfl)) (by rfl))) ?_
   refine PR_free (by rfl) (by rfl) (by rfl) (by exact wn0 rfl) (fun wS => (x_move (v := .int .i64 y7_1) (by rfl))) ?_
   obtain ⟨el66, h67, h68, he69, hm⟩ := idx_some hm
   obtain ⟨g71, _, hA70, _, _⟩ := H.rowIdx (i := 3) (j := 1) (by rfl) (by rfl) he69
   refine PR_free (by rfl) (by rfl) (by rfl) (by exact wn0 rfl) (fun wS => (x_indexAddr sl74 sz96 (by rfl) (by rfl) hA70 h67 h68)) ?_
   refine PR_free (by rfl) (by rfl) (by rfl) (by exact wn0 rfl) (fun wS => (x_fieldAddr fo96_0 (by rfl))) ?_
   refine PR_take (by rfl) (by rfl) (by rfl) (by exact wn0 rfl) (fun wS (H : Sep ok w wS [.blk b5 76 [.slice A_row23_1 l_row23_1.length c_row23_1], .hole, .blk b9 81 [.int .i64 0, .int .i64 0], .row (.slice A_row23_1 l_row23_1.length c_row23_1) 96 k_Slot.sz l_row23_1.length cs_row23_1] [RE.rd k_Slot A1 cp2 a0.Slots, RE.chunks k_Slot cs_row23_1 l_row23_1]) => (x_load (j := 0) (v := .int .i64 el66.Gen) sc3 (by rfl) (H.rowFlatAt (n := 2) (i := 3) (j := 1) (by rfl) (by rfl) hA70 he69) (by rfl))) ?_
   refine PR_free (by rfl) (by rfl) (by rfl) (by exact wn0 rfl) (fun wS => (x_build (vs := [(0, .int .i64 y7_1), (1, .int .i64 el66.Gen)]) (cs := [.int .i64 y7_1, .int .i64 el66.Gen]) (by rfl) (by kernel_rfl))) ?_
   refine PR_run (by rfl) (O_store (i := 1) (off := 0) (by exact wn0 rfl) (by rfl) (by rfl) H (by rfl) (vs := [.slice A_row23_1 l_row23_1.length c_row23_1]) (by rfl) sz76 (by rfl) (by rfl) (by rfl) (fun w73 (H : Sep ok w w73 [.blk b5 76 [.slice A_row23_1 l_row23_1.length c_row23_1], .blk b7 76 [.slice A_row23_1 l_row23_1.length c_row23_1], .blk b9 81 [.int .i64 0, .int .i64 0], .row (.slice A_row23_1 l_row23_1.length c_row23_1) 96 k_Slot.sz l_row23_1.length cs_row23_1] [RE.rd k_Slot A1 cp2 a0.Slots, RE.chunks k_Slot cs_row23_1 l_row23_1]) => ⟨(Sep.holeL H 1), ?_⟩))
   refine PR_tail (by rfl) (O_store (i := 2) (off := 0) (by exact wn0 rfl) (by rfl) (by rfl) H (by rfl) (vs := [.int .i64 y7_1, .int .i64 el66.Gen]) (by rfl) sz81 (by rfl) (by rfl) (by rfl) (fun w74 (H : Sep ok w w74 [.blk b5 76 [.slice A_row23_1 l_row23_1.length c_row23_1], .blk b7 76 [.slice A_row23_1 l_row23_1.length c_row23_1], .blk b9 81 [.int .i64 y7_1, .int .i64 el66.Gen], .row (.slice A_row23_1 l_row23_1.length c_row23_1) 96 k_Slot.sz l_row23_1.length cs_row23_1] [RE.rd k_Slot A1 cp2 a0.Slots, RE.chunks k_Slot cs_row23_1 l_row23_1]) => ?_))
   refine PR_free (by rfl) (by rfl) (by rfl) (by exact wn0 rfl) (fun wS => (x_assign (v := .int .i64 0) (by rfl))) ?_
   refine PR_nil ?_
   refine W_ret ?_
   have H : Sep ok w w74 [.blk b5 76 [.slice A_row23_1 l_row23_1.length c_row23_1], .blk b7 76 [.slice A_row23_1 l_row23_1.length c_row23_1], .blk b9 81 [.int .i64 y7_1, .int .i64 el66.Gen], .hole] [RE.rd k_Slot A1 cp2 a0.Slots, RE.fr w.heap.size k_Slot A_row23_1 c_row23_1 l_row23_1] := H.frozenF hno (fun _ _ _ _ _ _ h => h) (i := 3) (j := 1) (by rfl) (by rfl)
   obtain rfl := Option.some.inj hm
   exact ⟨[.agg #[.slice A_row23_1 l_row23_1.length c_row23_1], .agg #[.int .i64 y7_1, .int .i64 el66.Gen], .int .i64 0], (.cellA (by rfl) ag76 (H.cells (i := 1) (by rfl)) (by rfl) (.cellA (by rfl) ag81 (H.cells (i := 2) (by rfl)) (by rfl) (.tmp (by rfl) rfl))), A_row23_1, c_row23_1, rfl, (H.forgetAll).pick [1]⟩
end Go.Proofs.YtobkigllalbkiaaV.M

/- A plain Lean function that answers as the Go function does (none: not told), and the proof that a call answers so. Written by program. -/
set_option linter.unusedVariables false
namespace Go.Proofs.YtobkigllalbkiaaV.M
open Go.RowKit Go.Proofs.YtobkigllalbkiaaV
/-- Make, behind its call of Twin -/
def tl45 (K : Nat) (a0 : S_Graph) (v23 : S_Arena × S_Handle × Int) : Option (S_Graph × S_Handle × Int) :=
 (m53 K a0).bind fun v => if v23.1.Slots.length * 24 ≤ 140737488355328 then some ((⟨v23.1, v.Kids ++ List.replicate (v23.1.Slots.length - v.Kids.length) []⟩ : S_Graph), v23.2.1, 0) else none
theorem pad_more {α : Type} {l : List (List α)} {v : List (List α)} {n : Nat} (h : l = v ++ List.replicate (l.length - v.length) []) (hv : v.length ≤ l.length) : l ++ [[]] = v ++ List.replicate ((l ++ [[]]).length - v.length) [] := by
 have e : (l ++ [[]]).length - v.length = (l.length - v.length) + 1 := by simp; omega
 rw [e, List.replicate_succ', ← List.append_assoc, ← h]
/-- diorama/nodes.Make -/
def m45 (K : Nat) (a0 : S_Graph) : Option (S_Graph × S_Handle × Int) :=
 ((m79 K a0 ([])).bind fun v16 => (bif (v16 != 0) then some ((⟨(⟨[]⟩ : S_Arena), []⟩ : S_Graph), (⟨0, 0⟩ : S_Handle), v16) else ((m94 K a0.Arena).bind fun v23 => (bif (v23.2.2 != 0) then some ((⟨(⟨[]⟩ : S_Arena), []⟩ : S_Graph), (⟨0, 0⟩ : S_Handle), v23.2.2) else (tl45 K a0 v23)))))
set_option maxRecDepth 100000 in
set_option maxHeartbeats 4000000 in
theorem c45n (ok : Okp) (hno : ∀ k, ¬ ok.wr k) (K : Nat) (w : World) (a0 : S_Graph) (A1 : Option Addr) (cp2 : Nat) (A5 : Option Addr) (cp6 : Nat) (hR3 : Rd k_Slot w ok A1 cp2 a0.Arena.Slots) (hR7 : Rd (Kd.slice k_Handle) w ok A5 cp6 a0.Kids) (res : S_Graph × S_Handle × Int) (hm : m45 K a0 = some res) :
  Calls Try.prog 45 #[.agg #[.slice A1 a0.Arena.Slots.length cp2, .slice A5 a0.Kids.length cp6]] w (fun e w' => ∃ (A0_ : Option Addr) (c0_ : Nat), ∃ (A1_ : Option Addr) (c1_ : Nat), e = .returned (tup [.agg #[.slice A0_ res.1.Arena.Slots.length c0_, .slice A1_ res.1.Kids.length c1_], .agg #[.int .i64 res.2.1.Slot, .int .i64 res.2.1.Gen], .int .i64 res.2.2]) ∧ Sep ok w w' [] [FRS w A0_ c0_ res.1, FRK w A1_ c1_ res.1]) := by
 refine calls_W (args := [.agg #[.slice A1 a0.Arena.Slots.length cp2, .slice A5 a0.Kids.length cp6]]) Try.func45 rfl Try.ntmps45 Try.results45 rfl fun r hr => ?_
 obtain ⟨r1, rfl⟩ := regen (r := r) [(0, .agg #[.slice A1 a0.Arena.Slots.length cp2, .slice A5 a0.Kids.length cp6])] ⟨hr 0 _ rfl, trivial⟩
 have H : Sep ok w w [] [RDS A1 cp2 a0, RDK A5 cp6 a0] := Sep.arg (Sep.arg (Sep.start ok w) (re := RE.rd k_Slot A1 cp2 a0.Arena.Slots) rfl rfl hR3) (re := RE.rd (Kd.slice k_Handle) A5 cp6 a0.Kids) rfl rfl hR7
 unfold m45 at hm
 refine W_seq ?_
 refine W_region ?_
 refine RL_cons (O_box (by exact wn0 rfl) (by rfl) (by rfl) (by rfl) H (fun w10 b9 (H : Sep ok w w10 [GRB b9 A1 cp2 A5 cp6 a0] [RDS A1 cp2 a0, RDK A5 cp6 a0]) => ?_))
 refine RL_cons (O_alloc (by exact wn0 rfl) (by rfl) ze79 (by rfl) H (fun w12 b11 (H : Sep ok w w12 [GRB b9 A1 cp2 A5 cp6 a0, .blk b11 79 [.slice none 0 0, .slice none 0 0]] [RDS A1 cp2 a0, RDK A5 cp6 a0]) => ?_))
 refine RL_cons (O_alloc (by exact wn0 rfl) (by rfl) ze81 (by rfl) H (fun w14 b13 (H : Sep ok w w14 [GRB b9 A1 cp2 A5 cp6 a0, .blk b11 79 [.slice none 0 0, .slice none 0 0], .blk b13 81 [.int .i64 0, .int .i64 0]] [RDS A1 cp2 a0, RDK A5 cp6 a0]) => ?_))
 refine RL_p (x_assign (v := .int .i64 0) (by rfl)) ?_
 refine RL_nil ?_
 refine W_seq ?_
 refine W_seq ?_
 refine W_region ?_
 refine RL_p (x_loadA (j := 0) (vs := [.slice A1 a0.Arena.Slots.length cp2, .slice A5 a0.Kids.length cp6]) ag79 (by rfl) (H.cells (i := 0) (by rfl)) (by rfl) (by rfl)) ?_
 obtain ⟨v16, hv15, hm⟩ := bind_some hm
 refine RL_cons (O_call (by exact wn0 rfl) (by rfl) (by rfl) (x_callL (by rfl) (args := [.agg #[.slice A1 a0.Arena.Slots.length cp2, .slice A5 a0.Kids.length cp6], .slice none 0 0]) (by rfl) (cf79 _ _)) (c79 okT K w14 a0 A1 cp2 A5 cp6 ([]) none 0 (H.rd (i := 0) (by rfl)).any (H.rd (i := 1) (by rfl)).any (Rd.nil (by decide)) v16 hv15) ?_)
 rintro e w17 ⟨rfl, H2⟩
 have H : Sep ok w w17 [GRB b9 A1 cp2 A5 cp6 a0, .blk b11 79 [.slice none 0 0, .slice none 0 0], .blk b13 81 [.int .i64 0, .int .i64 0]] [RDS A1 cp2 a0, RDK A5 cp6 a0] := H.below H2.base
 clear H2
 refine ⟨_, rfl, ?_⟩
 show RL _ _ _ _ _ _ _
 refine RL_p (x_assign (v := .int .i64 v16) (by rfl)) ?_
 refine RL_nil ?_
 refine W_seq ?_
 refine W_region ?_
 refine RL_p (x_move (v := .int .i64 v16) (by rfl)) ?_
 refine RL_p (x_neq (by rfl) (by rfl)) ?_
 refine RL_nil ?_
 refine W_cond (by rfl) (fun hb => ?_) (fun hb => ?_)
 ·have hm := cond_t hb hm
  refine W_seq ?_
  refine W_region ?_
  refine RL_p (x_build (vs := []) (cs := [.slice none 0 0, .slice none 0 0]) (by rfl) (by kernel_rfl)) ?_
  refine RL_p (x_build (vs := []) (cs := [.int .i64 0, .int .i64 0]) (by rfl) (by kernel_rfl)) ?_
  refine RL_p (x_move (v := .int .i64 v16) (by rfl)) ?_
  refine RL_cons (O_store (i := 1) (off := 0) (by exact wn0 rfl) (by rfl) (by rfl) H (by rfl) (vs := [.slice none 0 0, .slice none 0 0]) (by rfl) sz79 (by rfl) (by rfl) (by rfl) (fun w18 (H : Sep ok w w18 [GRB b9 A1 cp2 A5 cp6 a0, .blk b11 79 [.slice none 0 0, .slice none 0 0], .blk b13 81 [.int .i64 0, .int .i64 0]] [RDS A1 cp2 a0, RDK A5 cp6 a0]) => ?_))
  refine RL_cons (O_store (i := 2) (off := 0) (by exact wn0 rfl) (by rfl) (by rfl) H (by rfl) (vs := [.int .i64 0, .int .i64 0]) (by rfl) sz81 (by rfl) (by rfl) (by rfl) (fun w19 (H : Sep ok w w19 [GRB b9 A1 cp2 A5 cp6 a0, .blk b11 79 [.slice none 0 0, .slice none 0 0], .blk b13 81 [.int .i64 0, .int .i64 0]] [RDS A1 cp2 a0, RDK A5 cp6 a0]) => ?_))
  refine RL_p (x_assign (v := .int .i64 v16) (by rfl)) ?_
  refine RL_nil ?_
  refine W_ret ?_
  have H : Sep ok w w19 [GRB b9 A1 cp2 A5 cp6 a0, .blk b11 79 [.slice none 0 0, .slice none 0 0], .blk b13 81 [.int .i64 0, .int .i64 0]] [RDS A1 cp2 a0, RDK A5 cp6 a0, RE.fr w.heap.size k_Slot none 0 ([])] := Sep.also H (re := RE.fr w.heap.size k_Slot none 0 ([])) (Rd.nil (by decide))
  have H : Sep ok w w19 [GRB b9 A1 cp2 A5 cp6 a0, .blk b11 79 [.slice none 0 0, .slice none 0 0], .blk b13 81 [.int .i64 0, .int .i64 0]] [RDS A1 cp2 a0, RDK A5 cp6 a0, RE.fr w.heap.size k_Slot none 0 ([]), RE.fr w.heap.size (Kd.slice k_Handle) none 0 ([])] := Sep.also H (re := RE.fr w.heap.size (Kd.slice k_Handle) none 0 ([])) (Rd.nil (by decide))
  obtain rfl := Option.some.inj hm
  exact ⟨[.agg #[.slice none 0 0, .slice none 0 0], .agg #[.int .i64 0, .int .i64 0], .int .i64 v16], (.cellA (by rfl) ag79 (H.cells (i := 1) (by rfl)) (by rfl) (.cellA (by rfl) ag81 (H.cells (i := 2) (by rfl)) (by rfl) (.tmp (by rfl) rfl))), none, 0, none, 0, rfl, (H.forgetAll).pick [2, 3]⟩
 ·have hm := cond_f hb hm
  refine W_skip ?_
  refine W_seq ?_
  refine W_region ?_
  refine RL_p (x_fieldAddr fo79_0 (by rfl)) ?_
  refine RL_p (x_loadA (j := 0) (vs := [.slice A1 a0.Arena.Slots.length cp2]) ag76 (by rfl) (H.cells (i := 0) (by rfl)) (by rfl) (by rfl)) ?_
  obtain ⟨v23, hv22, hm⟩ := bind_some hm
  have H : Sep ok w w17 [GRB b9 A1 cp2 A5 cp6 a0, .blk b11 79 [.slice none 0 0, .slice none 0 0], .blk b13 81 [.int .i64 0, .int .i64 0]] [RDS A1 cp2 a0, RDK A5 cp6 a0, LTS w17 A1 cp2 a0, LTK w17 A5 cp6 a0] := ((H.alsoLt (i := 0) (by rfl)).alsoLt (i := 1) (by rfl))
  have hm0 : w.heap.size ≤ w17.heap.size := H.le
  refine RL_cons (O_call (by exact wn0 rfl) (by rfl) (by rfl) (x_callL (by rfl) (args := [.agg #[.slice A1 a0.Arena.Slots.length cp2]]) (by rfl) (cf94 _ _)) (c94n (okS ok w [GRB b9 A1 cp2 A5 cp6 a0, .blk b11 79 [.slice none 0 0, .slice none 0 0], .blk b13 81 [.int .i64 0, .int .i64 0]]) (fun _ h => h) K w17 a0.Arena A1 cp2 (H.rd (i := 0) (by rfl)) v23 hv22) ?_)
  rintro e w24 ⟨A25, cp26, rfl, H2⟩
  have H : Sep ok w w24 [GRB b9 A1 cp2 A5 cp6 a0, .blk b11 79 [.slice none 0 0, .slice none 0 0], .blk b13 81 [.int .i64 0, .int .i64 0]] [RDS A1 cp2 a0, RDK A5 cp6 a0, LTS w17 A1 cp2 a0, LTK w17 A5 cp6 a0, RE.fr w17.heap.size k_Slot A25 cp26 v23.1.Slots] := H.call H2
  clear H2
  have H : Sep ok w w24 [GRB b9 A1 cp2 A5 cp6 a0, .blk b11 79 [.slice none 0 0, .slice none 0 0], .blk b13 81 [.int .i64 0, .int .i64 0]] [RDS A1 cp2 a0, RDK A5 cp6 a0, LTS w17 A1 cp2 a0, LTK w17 A5 cp6 a0, RE.fr w17.heap.size k_Slot A25 cp26 v23.1.Slots, RE.rd k_Slot A25 cp26 v23.1.Slots] := (H.alsoRd (i := 4) (by rfl))
  refine ⟨_, rfl, ?_⟩
  show RL _ _ _ _ _ _ _
  refine RL_p (x_move (v := tup [.agg #[.slice A25 v23.1.Slots.length cp26], .agg #[.int .i64 v23.2.1.Slot, .int .i64 v23.2.1.Gen], .int .i64 v23.2.2]) (by rfl)) ?_
  refine RL_p (x_extract (v := .agg #[.slice A25 v23.1.Slots.length cp26]) (by rfl) (by rfl)) ?_
  refine RL_p (x_extract (v := .agg #[.int .i64 v23.2.1.Slot, .int .i64 v23.2.1.Gen]) (by rfl) (by rfl)) ?_
  refine RL_p (x_extract (v := .int .i64 v23.2.2) (by rfl) (by rfl)) ?_
  refine RL_cons (O_alloc (by exact wn0 rfl) (by rfl) ze76 (by rfl) H (fun w29 b28 (H : Sep ok w w29 [GRB b9 A1 cp2 A5 cp6 a0, .blk b11 79 [.slice none 0 0, .slice none 0 0], .blk b13 81 [.int .i64 0, .int .i64 0], .blk b28 76 [.slice none 0 0]] [RDS A1 cp2 a0, RDK A5 cp6 a0, LTS w17 A1 cp2 a0, LTK w17 A5 cp6 a0, RE.fr w17.heap.size k_Slot A25 cp26 v23.1.Slots, RE.rd k_Slot A25 cp26 v23.1.Slots]) => ?_))
  refine RL_cons (O_alloc (by exact wn0 rfl) (by rfl) ze81 (by rfl) H (fun w31 b30 (H : Sep ok w w31 [GRB b9 A1 cp2 A5 cp6 a0, .blk b11 79 [.slice none 0 0, .slice none 0 0], .blk b13 81 [.int .i64 0, .int .i64 0], .blk b28 76 [.slice none 0 0], .blk b30 81 [.int .i64 0, .int .i64 0]] [RDS A1 cp2 a0, RDK A5 cp6 a0, LTS w17 A1 cp2 a0, LTK w17 A5 cp6 a0, RE.fr w17.heap.size k_Slot A25 cp26 v23.1.Slots, RE.rd k_Slot A25 cp26 v23.1.Slots]) => ?_))
  refine RL_cons (O_store (i := 3) (off := 0) (by exact wn0 rfl) (by rfl) (by rfl) H (by rfl) (vs := [.slice A25 v23.1.Slots.length cp26]) (by rfl) sz76 (by rfl) (by rfl) (by rfl) (fun w32 (H : Sep ok w w32 [GRB b9 A1 cp2 A5 cp6 a0, .blk b11 79 [.slice none 0 0, .slice none 0 0], .blk b13 81 [.int .i64 0, .int .i64 0], .blk b28 76 [.slice A25 v23.1.Slots.length cp26], .blk b30 81 [.int .i64 0, .int .i64 0]] [RDS A1 cp2 a0, RDK A5 cp6 a0, LTS w17 A1 cp2 a0, LTK w17 A5 cp6 a0, RE.fr w17.heap.size k_Slot A25 cp26 v23.1.Slots, RE.rd k_Slot A25 cp26 v23.1.Slots]) => ?_))
  refine RL_cons (O_store (i := 4) (off := 0) (by exact wn0 rfl) (by rfl) (by rfl) H (by rfl) (vs := [.int .i64 v23.2.1.Slot, .int .i64 v23.2.1.Gen]) (by rfl) sz81 (by rfl) (by rfl) (by rfl) (fun w33 (H : Sep ok w w33 [GRB b9 A1 cp2 A5 cp6 a0, .blk b11 79 [.slice none 0 0, .slice none 0 0], .blk b13 81 [.int .i64 0, .int .i64 0], .blk b28 76 [.slice A25 v23.1.Slots.length cp26], HNB b30 v23.2.1] [RDS A1 cp2 a0, RDK A5 cp6 a0, LTS w17 A1 cp2 a0, LTK w17 A5 cp6 a0, RE.fr w17.heap.size k_Slot A25 cp26 v23.1.Slots, RE.rd k_Slot A25 cp26 v23.1.Slots]) => ?_))
  refine RL_p (x_assign (v := .int .i64 v23.2.2) (by rfl)) ?_
  refine RL_nil ?_
  refine W_seq ?_
  refine W_seq ?_
  refine W_region ?_
  refine RL_p (x_move (v := .int .i64 v23.2.2) (by rfl)) ?_
  refine RL_p (x_neq (by rfl) (by rfl)) ?_
  refine RL_nil ?_
  refine W_cond (by rfl) (fun hb => ?_) (fun hb => ?_)
  ·have hm := cond_t hb hm
   refine W_seq ?_
   refine W_region ?_
   refine RL_p (x_build (vs := []) (cs := [.slice none 0 0, .slice none 0 0]) (by rfl) (by kernel_rfl)) ?_
   refine RL_p (x_build (vs := []) (cs := [.int .i64 0, .int .i64 0]) (by rfl) (by kernel_rfl)) ?_
   refine RL_p (x_move (v := .int .i64 v23.2.2) (by rfl)) ?_
   refine RL_cons (O_store (i := 1) (off := 0) (by exact wn0 rfl) (by rfl) (by rfl) H (by rfl) (vs := [.slice none 0 0, .slice none 0 0]) (by rfl) sz79 (by rfl) (by rfl) (by rfl) (fun w34 (H : Sep ok w w34 [GRB b9 A1 cp2 A5 cp6 a0, .blk b11 79 [.slice none 0 0, .slice none 0 0], .blk b13 81 [.int .i64 0, .int .i64 0], .blk b28 76 [.slice A25 v23.1.Slots.length cp26], HNB b30 v23.2.1] [RDS A1 cp2 a0, RDK A5 cp6 a0, LTS w17 A1 cp2 a0, LTK w17 A5 cp6 a0, RE.fr w17.heap.size k_Slot A25 cp26 v23.1.Slots, RE.rd k_Slot A25 cp26 v23.1.Slots]) => ?_))
   refine RL_cons (O_store (i := 2) (off := 0) (by exact wn0 rfl) (by rfl) (by rfl) H (by rfl) (vs := [.int .i64 0, .int .i64 0]) (by rfl) sz81 (by rfl) (by rfl) (by rfl) (fun w35 (H : Sep ok w w35 [GRB b9 A1 cp2 A5 cp6 a0, .blk b11 79 [.slice none 0 0, .slice none 0 0], .blk b13 81 [.int .i64 0, .int .i64 0], .blk b28 76 [.slice A25 v23.1.Slots.length cp26], HNB b30 v23.2.1] [RDS A1 cp2 a0, RDK A5 cp6 a0, LTS w17 A1 cp2 a0, LTK w17 A5 cp6 a0, RE.fr w17.heap.size k_Slot A25 cp26 v23.1.Slots, RE.rd k_Slot A25 cp26 v23.1.Slots]) => ?_))
   refine RL_p (x_assign (v := .int .i64 v23.2.2) (by rfl)) ?_
   refine RL_nil ?_
   refine W_ret ?_
   have H : Sep ok w w35 [GRB b9 A1 cp2 A5 cp6 a0, .blk b11 79 [.slice none 0 0, .slice none 0 0], .blk b13 81 [.int .i64 0, .int .i64 0], .blk b28 76 [.slice A25 v23.1.Slots.length cp26], HNB b30 v23.2.1] [RDS A1 cp2 a0, RDK A5 cp6 a0, LTS w17 A1 cp2 a0, LTK w17 A5 cp6 a0, RE.fr w17.heap.size k_Slot A25 cp26 v23.1.Slots, RE.rd k_Slot A25 cp26 v23.1.Slots, RE.fr w.heap.size k_Slot none 0 ([])] := Sep.also H (re := RE.fr w.heap.size k_Slot none 0 ([])) (Rd.nil (by decide))
   have H : Sep ok w w35 [GRB b9 A1 cp2 A5 cp6 a0, .blk b11 79 [.slice none 0 0, .slice none 0 0], .blk b13 81 [.int .i64 0, .int .i64 0], .blk b28 76 [.slice A25 v23.1.Slots.length cp26], HNB b30 v23.2.1] [RDS A1 cp2 a0, RDK A5 cp6 a0, LTS w17 A1 cp2 a0, LTK w17 A5 cp6 a0, RE.fr w17.heap.size k_Slot A25 cp26 v23.1.Slots, RE.rd k_Slot A25 cp26 v23.1.Slots, RE.fr w.heap.size k_Slot none 0 ([]), RE.fr w.heap.size (Kd.slice k_Handle) none 0 ([])] := Sep.also H (re := RE.fr w.heap.size (Kd.slice k_Handle) none 0 ([])) (Rd.nil (by decide))
   obtain rfl := Option.some.inj hm
   exact ⟨[.agg #[.slice none 0 0, .slice none 0 0], .agg #[.int .i64 0, .int .i64 0], .int .i64 v23.2.2], (.cellA (by rfl) ag79 (H.cells (i := 1) (by rfl)) (by rfl) (.cellA (by rfl) ag81 (H.cells (i := 2) (by rfl)) (by rfl) (.tmp (by rfl) rfl))), none, 0, none, 0, rfl, (H.forgetAll).pick [6, 7]⟩
  ·have hm := cond_f hb hm
   refine W_skip ?_
   refine W_seq ?_
   refine W_region ?_
   refine RL_p (x_loadA (j := 0) (vs := [.slice A1 a0.Arena.Slots.length cp2, .slice A5 a0.Kids.length cp6]) ag79 (by rfl) (H.cells (i := 0) (by rfl)) (by rfl) (by rfl)) ?_
   unfold tl45 at hm
   obtain ⟨v, hv, hm⟩ := bind_some hm
   by_cases hsz : v23.1.Slots.length * 24 ≤ 140737488355328
   rotate_left
   ·rw [if_neg hsz] at hm; cases hm
   rw [if_pos hsz] at hm
   have H := H.also (re := RE.fr w.heap.size k_Slot A25 cp26 v23.1.Slots) (Rd.weak (H.frRd (i := 4) (by rfl)) fun b ob _ hb => ⟨hb.1, Nat.le_trans hm0 hb.2.1, hb.2.2⟩)
   have H : Sep ok w _ [GRB b9 A1 cp2 A5 cp6 a0, .blk b11 79 [.slice none 0 0, .slice none 0 0], .blk b13 81 [.int .i64 0, .int .i64 0], .blk b28 76 [.slice A25 v23.1.Slots.length cp26], HNB b30 v23.2.1] [RDS A1 cp2 a0, RDK A5 cp6 a0, RE.fr w.heap.size k_Slot A25 cp26 v23.1.Slots] := (H.takeL 5).pick [0, 1, 6]
   refine RL_cons (O_call (by exact wn0 rfl) (by rfl) (by rfl) (x_callL (by rfl) (args := [.agg #[.slice A1 a0.Arena.Slots.length cp2, .slice A5 a0.Kids.length cp6]]) (by rfl) (cf53 _ _)) (c53x _ K _ a0 A1 cp2 A5 cp6 (H.rd (i := 0) (by rfl)) (H.rd (i := 1) (by rfl)) v hv) ?_)
   rintro e w2 ⟨A2, c2, s2, A3, c3, s3, ls, hls, rfl, H2⟩
   have H : Sep ok w w2 [GRB b9 A1 cp2 A5 cp6 a0, .blk b11 79 [.slice none 0 0, .slice none 0 0], .blk b13 81 [.int .i64 0, .int .i64 0], .blk b28 76 [.slice A25 v23.1.Slots.length cp26], HNB b30 v23.2.1, .row (.slice A2 v.Arena.Slots.length c2) 96 k_Slot.sz v.Arena.Slots.length s2, .row (.slice A3 (ls.map Inn.hd).length c3) 87 kHd.sz (ls.map Inn.hd).length s3, rowsOf 81 k_Handle.sz ls] [RDS A1 cp2 a0, RDK A5 cp6 a0, RE.fr w.heap.size k_Slot A25 cp26 v23.1.Slots, RE.chunks k_Slot s2 v.Arena.Slots, RE.chunks kHd s3 (ls.map Inn.hd), RE.inns k_Handle ls] := H.call H2
   clear H2
   refine ⟨_, rfl, ?_⟩
   show RL _ _ _ _ _ _ _
   refine RL_cons (O_store (i := 0) (off := 0) (by exact wn0 rfl) (by rfl) (by rfl) H (by rfl) (vs := [.slice A2 v.Arena.Slots.length c2, .slice A3 (ls.map Inn.hd).length c3]) (by rfl) sz79 (by rfl) (by rfl) (by rfl) (fun w3 (H : Sep ok w w3 [.blk b9 79 [.slice A2 v.Arena.Slots.length c2, .slice A3 (ls.map Inn.hd).length c3], .blk b11 79 [.slice none 0 0, .slice none 0 0], .blk b13 81 [.int .i64 0, .int .i64 0], .blk b28 76 [.slice A25 v23.1.Slots.length cp26], HNB b30 v23.2.1, .row (.slice A2 v.Arena.Slots.length c2) 96 k_Slot.sz v.Arena.Slots.length s2, .row (.slice A3 (ls.map Inn.hd).length c3) 87 kHd.sz (ls.map Inn.hd).length s3, rowsOf 81 k_Handle.sz ls] [RDS A1 cp2 a0, RDK A5 cp6 a0, RE.fr w.heap.size k_Slot A25 cp26 v23.1.Slots, RE.chunks k_Slot s2 v.Arena.Slots, RE.chunks kHd s3 (ls.map Inn.hd), RE.inns k_Handle ls]) => ?_))
   refine RL_nil ?_
   refine W_seq ?_
   refine W_region ?_
   refine RL_p (x_loadA (j := 0) (vs := [.slice A25 v23.1.Slots.length cp26]) ag76 (by rfl) (H.cells (i := 3) (by rfl)) (by rfl) (by rfl)) ?_
   refine RL_p (x_fieldAddr fo79_0 (by rfl)) ?_
   refine RL_cons (O_store (i := 0) (off := 0) (by exact wn0 rfl) (by rfl) (by rfl) H (by rfl) (vs := [.slice A25 v23.1.Slots.length cp26]) (by rfl) sz76 (by rfl) (by rfl) (by rfl) (fun w4 (H : Sep ok w w4 [.blk b9 79 [.slice A25 v23.1.Slots.length cp26, .slice A3 (ls.map Inn.hd).length c3], .blk b11 79 [.slice none 0 0, .slice none 0 0], .blk b13 81 [.int .i64 0, .int .i64 0], .blk b28 76 [.slice A25 v23.1.Slots.length cp26], HNB b30 v23.2.1, .row (.slice A2 v.Arena.Slots.length c2) 96 k_Slot.sz v.Arena.Slots.length s2, .row (.slice A3 (ls.map Inn.hd).length c3) 87 kHd.sz (ls.map Inn.hd).length s3, rowsOf 81 k_Handle.sz ls] [RDS A1 cp2 a0, RDK A5 cp6 a0, RE.fr w.heap.size k_Slot A25 cp26 v23.1.Slots, RE.chunks k_Slot s2 v.Arena.Slots, RE.chunks kHd s3 (ls.map Inn.hd), RE.inns k_Handle ls]) => ?_))
   refine RL_nil ?_
   refine W_seq ?_
   refine W_block ?_
   have hlen0 : ls.length = v.Kids.length := by rw [← hls, List.length_map]
   refine W_loop (fun k r' w' => ∃ (l : List (Inn S_Handle)) (A : Option Addr) (c : Nat) (sl : List Value), v.Kids.length ≤ l.length ∧ (l.length = v.Kids.length ∨ l.length ≤ v23.1.Slots.length) ∧ v23.1.Slots.length < l.length + k ∧ l.map (·.xs) = v.Kids ++ List.replicate ((l.map (·.xs)).length - v.Kids.length) [] ∧ Agr [(1, .pointer (some ⟨b9, 0, none⟩)), (2, .pointer (some ⟨b11, 0, none⟩)), (3, .pointer (some ⟨b13, 0, none⟩)), (6, .pointer (some ⟨b28, 0, none⟩)), (7, .pointer (some ⟨b30, 0, none⟩))] r' ∧ Sep ok w w' [.blk b9 79 [.slice A25 v23.1.Slots.length cp26, .slice A (l.map Inn.hd).length c], .blk b11 79 [.slice none 0 0, .slice none 0 0], .blk b13 81 [.int .i64 0, .int .i64 0], .blk b28 76 [.slice A25 v23.1.Slots.length cp26], HNB b30 v23.2.1, .row (.slice A2 v.Arena.Slots.length c2) 96 k_Slot.sz v.Arena.Slots.length s2, .row (.slice A (l.map Inn.hd).length c) 87 kHd.sz (l.map Inn.hd).length sl, rowsOf 81 k_Handle.sz l] [RDS A1 cp2 a0, RDK A5 cp6 a0, RE.fr w.heap.size k_Slot A25 cp26 v23.1.Slots, RE.chunks k_Slot s2 v.Arena.Slots, RE.chunks kHd sl (l.map Inn.hd), RE.inns k_Handle l]) (v23.1.Slots.length + 1) ?_ ?_
   ·exact ⟨ls, A3, c3, s3, by omega, .inl hlen0, by omega, by rw [hls]; simp, ⟨rfl, rfl, rfl, rfl, rfl, trivial⟩, H⟩
   rintro k r' w' ⟨l, A, c, sl, hl1, hl2, hl3, hlx, hAg, H⟩
   obtain ⟨r20, rfl⟩ := regen _ hAg; clear hAg
   obtain ⟨w20, rfl⟩ : ∃ W : World, W = w' := ⟨_, rfl⟩
   have hlh : (l.map Inn.hd).length = l.length := List.length_map ..
   refine W_seq ?_
   refine W_seq ?_
   refine W_region ?_
   refine RL_p (x_fieldAddr fo79_1 (by rfl)) ?_
   refine RL_p (x_load (j := 1) (v := .slice A (l.map Inn.hd).length c) sc77 (by rfl) (H.cells (i := 0) (by rfl)) (by rfl)) ?_
   refine RL_p (x_len sl77 (by rfl)) ?_
   refine RL_p (x_fieldAddr fo76_0 (by rfl)) ?_
   refine RL_p (x_load (j := 0) (v := .slice A25 v23.1.Slots.length cp26) sc74 (by rfl) (H.cells (i := 3) (by rfl)) (by rfl)) ?_
   refine RL_p (x_len sl74 (by rfl)) ?_
   refine RL_p (x_lss (by rfl) (by rfl)) ?_
   refine RL_nil ?_
   refine W_cond (by rfl) (fun hb => ?_) (fun hb => ?_)
   ·have hlt : l.length < v23.1.Slots.length := by have := of_decide_eq_true hb; omega
    refine W_skip ?_
    refine W_block ?_
    refine W_region ?_
    refine RL_p (x_fieldAddr fo79_1 (by rfl)) ?_
    refine RL_p (x_load (j := 1) (v := .slice A (l.map Inn.hd).length c) sc77 (by rfl) (H.cells (i := 0) (by rfl)) (by rfl)) ?_
    refine RL_cons (O_buildSlice (vs := [(0, .slice none 0 0)]) (cs := [.slice none 0 0]) (by exact wn0 rfl) (by rfl) sl77 sz87 ze87 (by rfl) (by rfl) (by rfl) (by kernel_rfl) H (fun w21 bn (H : Sep ok w w21 [.blk b9 79 [.slice A25 v23.1.Slots.length cp26, .slice A (l.map Inn.hd).length c], .blk b11 79 [.slice none 0 0, .slice none 0 0], .blk b13 81 [.int .i64 0, .int .i64 0], .blk b28 76 [.slice A25 v23.1.Slots.length cp26], HNB b30 v23.2.1, .row (.slice A2 v.Arena.Slots.length c2) 96 k_Slot.sz v.Arena.Slots.length s2, .row (.slice A (l.map Inn.hd).length c) 87 kHd.sz (l.map Inn.hd).length sl, rowsOf 81 k_Handle.sz l, .blk bn 87 [.slice none 0 0]] [RDS A1 cp2 a0, RDK A5 cp6 a0, RE.fr w.heap.size k_Slot A25 cp26 v23.1.Slots, RE.chunks k_Slot s2 v.Arena.Slots, RE.chunks kHd sl (l.map Inn.hd), RE.inns k_Handle l]) => ?_))
    refine RL_cons (O_append (D := kHd) (xs := l.map Inn.hd) (ys := (List.map Inn.hd (l ++ [(Inn.nil : Inn S_Handle)] : List (Inn S_Handle)))) (i := 6) (j := 4) (o := 0) (y := (none, 0, 0)) (by exact wn0 rfl) (by rfl) (by rfl) (by rfl) H (by rfl) (by rfl) (H.cells (i := 8) (by rfl)) rfl (by simp [Inn.hd, Inn.nil]) sl77 sz87 by87 ze87 (by rfl) (by rfl) (by rw [hlh]; omega) (by rfl) (fun w22 A7 c7 s7 (H : Sep ok w w22 [.blk b9 79 [.slice A25 v23.1.Slots.length cp26, .slice A (l.map Inn.hd).length c], .blk b11 79 [.slice none 0 0, .slice none 0 0], .blk b13 81 [.int .i64 0, .int .i64 0], .blk b28 76 [.slice A25 v23.1.Slots.length cp26], HNB b30 v23.2.1, .row (.slice A2 v.Arena.Slots.length c2) 96 k_Slot.sz v.Arena.Slots.length s2, .row (.slice A7 (List.map Inn.hd (l ++ [(Inn.nil : Inn S_Handle)] : List (Inn S_Handle))).length c7) 87 kHd.sz (List.map Inn.hd (l ++ [(Inn.nil : Inn S_Handle)] : List (Inn S_Handle))).length s7, rowsOf 81 k_Handle.sz l, .blk bn 87 [.slice none 0 0]] [RDS A1 cp2 a0, RDK A5 cp6 a0, RE.fr w.heap.size k_Slot A25 cp26 v23.1.Slots, RE.chunks k_Slot s2 v.Arena.Slots, RE.chunks kHd s7 (List.map Inn.hd (l ++ [(Inn.nil : Inn S_Handle)] : List (Inn S_Handle))), RE.inns k_Handle l]) => ?_))
    refine RL_p (x_fieldAddr fo79_1 (by rfl)) ?_
    refine RL_cons (O_store (i := 0) (off := 1) (by exact wn0 rfl) (by rfl) (by rfl) H (by rfl) (vs := [.slice A7 (List.map Inn.hd (l ++ [(Inn.nil : Inn S_Handle)] : List (Inn S_Handle))).length c7]) (by rfl) sz77 (by rfl) (by rfl) (by rfl) (fun w23 (H : Sep ok w w23 [.blk b9 79 [.slice A25 v23.1.Slots.length cp26, .slice A7 (List.map Inn.hd (l ++ [(Inn.nil : Inn S_Handle)] : List (Inn S_Handle))).length c7], .blk b11 79 [.slice none 0 0, .slice none 0 0], .blk b13 81 [.int .i64 0, .int .i64 0], .blk b28 76 [.slice A25 v23.1.Slots.length cp26], HNB b30 v23.2.1, .row (.slice A2 v.Arena.Slots.length c2) 96 k_Slot.sz v.Arena.Slots.length s2, .row (.slice A7 (List.map Inn.hd (l ++ [(Inn.nil : Inn S_Handle)] : List (Inn S_Handle))).length c7) 87 kHd.sz (List.map Inn.hd (l ++ [(Inn.nil : Inn S_Handle)] : List (Inn S_Handle))).length s7, rowsOf 81 k_Handle.sz l, .blk bn 87 [.slice none 0 0]] [RDS A1 cp2 a0, RDK A5 cp6 a0, RE.fr w.heap.size k_Slot A25 cp26 v23.1.Slots, RE.chunks k_Slot s2 v.Arena.Slots, RE.chunks kHd s7 (List.map Inn.hd (l ++ [(Inn.nil : Inn S_Handle)] : List (Inn S_Handle))), RE.inns k_Handle l]) => ?_))
    refine RL_nil ?_
    have H := H.nilRow 81 k_Handle.sz
    have hin : (RE.inns k_Handle (l ++ [(Inn.nil : Inn S_Handle)] : List (Inn S_Handle))).rel w23 _ := fun q hq => by
     rcases List.mem_append.1 hq with hq | hq
     ·exact (show (RE.inns k_Handle l).rel _ _ from H.rds 5 _ (by rfl)) q hq
     ·simp at hq; subst hq; exact Chunks.nil
    have H := (H.setRe 5 hin).rowsPush (i := 7) (k := 9) (r := (Inn.nil : Inn S_Handle)) (by rfl) (by rfl) (by decide)
    have H : Sep ok w w23 [.blk b9 79 [.slice A25 v23.1.Slots.length cp26, .slice A7 ((l ++ [(Inn.nil : Inn S_Handle)] : List (Inn S_Handle)).map Inn.hd).length c7], .blk b11 79 [.slice none 0 0, .slice none 0 0], .blk b13 81 [.int .i64 0, .int .i64 0], .blk b28 76 [.slice A25 v23.1.Slots.length cp26], HNB b30 v23.2.1, .row (.slice A2 v.Arena.Slots.length c2) 96 k_Slot.sz v.Arena.Slots.length s2, .row (.slice A7 ((l ++ [(Inn.nil : Inn S_Handle)] : List (Inn S_Handle)).map Inn.hd).length c7) 87 kHd.sz ((l ++ [(Inn.nil : Inn S_Handle)] : List (Inn S_Handle)).map Inn.hd).length s7, rowsOf 81 k_Handle.sz (l ++ [(Inn.nil : Inn S_Handle)] : List (Inn S_Handle))] [RDS A1 cp2 a0, RDK A5 cp6 a0, RE.fr w.heap.size k_Slot A25 cp26 v23.1.Slots, RE.chunks k_Slot s2 v.Arena.Slots, RE.chunks kHd s7 ((l ++ [(Inn.nil : Inn S_Handle)] : List (Inn S_Handle)).map Inn.hd), RE.inns k_Handle (l ++ [(Inn.nil : Inn S_Handle)] : List (Inn S_Handle))] := H.takeL 8
    have hl4 : (l ++ [(Inn.nil : Inn S_Handle)] : List (Inn S_Handle)).length = l.length + 1 := by simp
    refine ⟨k - 1, by omega, (l ++ [(Inn.nil : Inn S_Handle)] : List (Inn S_Handle)), A7, c7, s7, by omega, .inr (by omega), by omega, ?_, ⟨rfl, rfl, rfl, rfl, rfl, trivial⟩, H⟩
    have hp := pad_more (n := 0) hlx (by rw [List.length_map]; exact hl1)
    simpa [Inn.nil] using hp
   ·have hge : ¬ l.length < v23.1.Slots.length := by have := of_decide_eq_false hb; omega
    have hk3 : l.map (·.xs) = v.Kids ++ List.replicate (v23.1.Slots.length - v.Kids.length) [] := by
     rw [hlx, List.length_map]
     congr 2
     omega
    refine W_exit ?_
    refine W_seq ?_
    refine W_draw [.take 0, .take 1, .run 2, .tail 3, .free 4] (fun wS => Sep ok w wS [.blk b9 79 [.slice A25 v23.1.Slots.length cp26, .slice A (l.map Inn.hd).length c], .hole, .blk b13 81 [.int .i64 0, .int .i64 0], .blk b28 76 [.slice A25 v23.1.Slots.length cp26], HNB b30 v23.2.1, .row (.slice A2 v.Arena.Slots.length c2) 96 k_Slot.sz v.Arena.Slots.length s2, .row (.slice A (l.map Inn.hd).length c) 87 kHd.sz (l.map Inn.hd).length sl, rowsOf 81 k_Handle.sz l] [RDS A1 cp2 a0, RDK A5 cp6 a0, RE.fr w.heap.size k_Slot A25 cp26 v23.1.Slots, RE.chunks k_Slot s2 v.Arena.Slots, RE.chunks kHd sl (l.map Inn.hd), RE.inns k_Handle l]) [3] [4] mixed0 (by kernel_rfl) (by kernel_rfl) (by kernel_rfl) (by rfl) (by exact (Sep.holeL H.drew 1)) ?_
    obtain ⟨w30, hW⟩ : ∃ W : World, W = { w20 with drawn := w20.drawn + 1 } := ⟨_, rfl⟩
    rw [← hW]
    have H : Sep ok w w30 [.blk b9 79 [.slice A25 v23.1.Slots.length cp26, .slice A (l.map Inn.hd).length c], .blk b11 79 [.slice none 0 0, .slice none 0 0], .blk b13 81 [.int .i64 0, .int .i64 0], .blk b28 76 [.slice A25 v23.1.Slots.length cp26], HNB b30 v23.2.1, .row (.slice A2 v.Arena.Slots.length c2) 96 k_Slot.sz v.Arena.Slots.length s2, .row (.slice A (l.map Inn.hd).length c) 87 kHd.sz (l.map Inn.hd).length sl, rowsOf 81 k_Handle.sz l] [RDS A1 cp2 a0, RDK A5 cp6 a0, RE.fr w.heap.size k_Slot A25 cp26 v23.1.Slots, RE.chunks k_Slot s2 v.Arena.Slots, RE.chunks kHd sl (l.map Inn.hd), RE.inns k_Handle l] := by rw [hW]; exact H.drew
    clear hW
    refine PR_take (by rfl) (by rfl) (by rfl) (by exact wn0 rfl) (fun wS (H : Sep ok w wS [.blk b9 79 [.slice A25 v23.1.Slots.length cp26, .slice A (l.map Inn.hd).length c], .hole, .blk b13 81 [.int .i64 0, .int .i64 0], .blk b28 76 [.slice A25 v23.1.Slots.length cp26], HNB b30 v23.2.1, .row (.slice A2 v.Arena.Slots.length c2) 96 k_Slot.sz v.Arena.Slots.length s2, .row (.slice A (l.map Inn.hd).length c) 87 kHd.sz (l.map Inn.hd).length sl, rowsOf 81 k_Handle.sz l] [RDS A1 cp2 a0, RDK A5 cp6 a0, RE.fr w.heap.size k_Slot A25 cp26 v23.1.Slots, RE.chunks k_Slot s2 v.Arena.Slots, RE.chunks kHd sl (l.map Inn.hd), RE.inns k_Handle l]) => (x_loadA (j := 0) (vs := [.slice A25 v23.1.Slots.length cp26, .slice A (l.map Inn.hd).length c]) ag79 (by rfl) (H.cells (i := 0) (by rfl)) (by rfl) (by rfl))) ?_
    refine PR_take (by rfl) (by rfl) (by rfl) (by exact wn0 rfl) (fun wS (H : Sep ok w wS [.blk b9 79 [.slice A25 v23.1.Slots.length cp26, .slice A (l.map Inn.hd).length c], .hole, .blk b13 81 [.int .i64 0, .int .i64 0], .blk b28 76 [.slice A25 v23.1.Slots.length cp26], HNB b30 v23.2.1, .row (.slice A2 v.Arena.Slots.length c2) 96 k_Slot.sz v.Arena.Slots.length s2, .row (.slice A (l.map Inn.hd).length c) 87 kHd.sz (l.map Inn.hd).length sl, rowsOf 81 k_Handle.sz l] [RDS A1 cp2 a0, RDK A5 cp6 a0, RE.fr w.heap.size k_Slot A25 cp26 v23.1.Slots, RE.chunks k_Slot s2 v.Arena.Slots, RE.chunks kHd sl (l.map Inn.hd), RE.inns k_Handle l]) => (x_loadA (j := 0) (vs := [.int .i64 v23.2.1.Slot, .int .i64 v23.2.1.Gen]) ag81 (by rfl) (H.cells (i := 4) (by rfl)) (by rfl) (by rfl))) ?_
    refine PR_run (by rfl) (O_store (i := 1) (off := 0) (by exact wn0 rfl) (by rfl) (by rfl) H (by rfl) (vs := [.slice A25 v23.1.Slots.length cp26, .slice A (l.map Inn.hd).length c]) (by rfl) sz79 (by rfl) (by rfl) (by rfl) (fun w31 (H : Sep ok w w31 [.blk b9 79 [.slice A25 v23.1.Slots.length cp26, .slice A (l.map Inn.hd).length c], .blk b11 79 [.slice A25 v23.1.Slots.length cp26, .slice A (l.map Inn.hd).length c], .blk b13 81 [.int .i64 0, .int .i64 0], .blk b28 76 [.slice A25 v23.1.Slots.length cp26], HNB b30 v23.2.1, .row (.slice A2 v.Arena.Slots.length c2) 96 k_Slot.sz v.Arena.Slots.length s2, .row (.slice A (l.map Inn.hd).length c) 87 kHd.sz (l.map Inn.hd).length sl, rowsOf 81 k_Handle.sz l] [RDS A1 cp2 a0, RDK A5 cp6 a0, RE.fr w.heap.size k_Slot A25 cp26 v23.1.Slots, RE.chunks k_Slot s2 v.Arena.Slots, RE.chunks kHd sl (l.map Inn.hd), RE.inns k_Handle l]) => ⟨(Sep.holeL H 1), ?_⟩))
    refine PR_tail (by rfl) (O_store (i := 2) (off := 0) (by exact wn0 rfl) (by rfl) (by rfl) H (by rfl) (vs := [.int .i64 v23.2.1.Slot, .int .i64 v23.2.1.Gen]) (by rfl) sz81 (by rfl) (by rfl) (by rfl) (fun w32 (H : Sep ok w w32 [.blk b9 79 [.slice A25 v23.1.Slots.length cp26, .slice A (l.map Inn.hd).length c], .blk b11 79 [.slice A25 v23.1.Slots.length cp26, .slice A (l.map Inn.hd).length c], HNB b13 v23.2.1, .blk b28 76 [.slice A25 v23.1.Slots.length cp26], HNB b30 v23.2.1, .row (.slice A2 v.Arena.Slots.length c2) 96 k_Slot.sz v.Arena.Slots.length s2, .row (.slice A (l.map Inn.hd).length c) 87 kHd.sz (l.map Inn.hd).length sl, rowsOf 81 k_Handle.sz l] [RDS A1 cp2 a0, RDK A5 cp6 a0, RE.fr w.heap.size k_Slot A25 cp26 v23.1.Slots, RE.chunks k_Slot s2 v.Arena.Slots, RE.chunks kHd sl (l.map Inn.hd), RE.inns k_Handle l]) => ?_))
    refine PR_free (by rfl) (by rfl) (by rfl) (by exact wn0 rfl) (fun wS => (x_assign (v := .int .i64 0) (by rfl))) ?_
    refine PR_nil ?_
    refine W_ret ?_
    have HF : Sep ok w w32 [.blk b9 79 [.slice A25 v23.1.Slots.length cp26, .slice A (l.map Inn.hd).length c], .blk b11 79 [.slice A25 v23.1.Slots.length cp26, .slice A (l.map Inn.hd).length c], HNB b13 v23.2.1, .blk b28 76 [.slice A25 v23.1.Slots.length cp26], HNB b30 v23.2.1, .row (.slice A2 v.Arena.Slots.length c2) 96 k_Slot.sz v.Arena.Slots.length s2, .row (.slice A (l.map Inn.hd).length c) 87 kHd.sz (l.map Inn.hd).length sl, rowsOf 81 k_Handle.sz l] [RDS A1 cp2 a0, RDK A5 cp6 a0, RE.fr w.heap.size k_Slot A25 cp26 v23.1.Slots, RE.chunks k_Slot s2 v.Arena.Slots, RE.chunks kHd sl (l.map Inn.hd), RE.inns k_Handle l] := H
    have H := H.rowsFreeze hno (fun _ _ _ _ _ _ h => h) (i := 7) (o := 6) (j := 4) (q := 5) (l := l) (by rfl) (by rw [← (List.length_map Inn.hd : (List.map Inn.hd l).length = _)]; rfl) (by rfl) (by rfl) (by decide)
    rw [hk3] at H
    obtain rfl := Option.some.inj hm
    have hkl : (l.map Inn.hd).length = (v.Kids ++ List.replicate (v23.1.Slots.length - v.Kids.length) ([] : List S_Handle)).length := by rw [← hk3, List.length_map, List.length_map]
    exact ⟨[.agg #[.slice A25 v23.1.Slots.length cp26, .slice A (l.map Inn.hd).length c], .agg #[.int .i64 v23.2.1.Slot, .int .i64 v23.2.1.Gen], .int .i64 0], (.cellA (by rfl) ag79 (HF.cells (i := 1) (by rfl)) (by rfl) (.cellA (by rfl) ag81 (HF.cells (i := 2) (by rfl)) (by rfl) (.tmp (by rfl) rfl))), A25, cp26, A, c, by rw [hkl] <;> rfl, (H.forgetAll).pick [2, 6]⟩

theorem c45 (ok : Okp) (K : Nat) (w : World) (a0 : S_Graph) (A1 : Option Addr) (cp2 : Nat) (A5 : Option Addr) (cp6 : Nat) (hR3 : Rd k_Slot w ok A1 cp2 a0.Arena.Slots) (hR7 : Rd (Kd.slice k_Handle) w ok A5 cp6 a0.Kids) (res : S_Graph × S_Handle × Int) (hm : m45 K a0 = some res) (hno : ∀ k, ¬ ok.wr k := by intro k hk; exact hk) :
  Calls Try.prog 45 #[.agg #[.slice A1 a0.Arena.Slots.length cp2, .slice A5 a0.Kids.length cp6]] w (fun e w' => ∃ (A0_ : Option Addr) (c0_ : Nat), ∃ (A1_ : Option Addr) (c1_ : Nat), e = .returned (tup [.agg #[.slice A0_ res.1.Arena.Slots.length c0_, .slice A1_ res.1.Kids.length c1_], .agg #[.int .i64 res.2.1.Slot, .int .i64 res.2.1.Gen], .int .i64 res.2.2]) ∧ Sep ok w w' [] [RDS A0_ c0_ res.1, RDK A1_ c1_ res.1]) :=
 (c45n ok hno K w a0 A1 cp2 A5 cp6 hR3 hR7 res hm).mono fun e w' ⟨A0_, c0_, A1_, c1_, he, H⟩ => ⟨A0_, c0_, A1_, c1_, he, ((H.alsoRd (i := 0) (by rfl)).alsoRd (i := 1) (by rfl)).pick [2, 3]⟩
end Go.Proofs.YtobkigllalbkiaaV.M

/- Graphs, in plain Lean: what the program's functions that change one tell. -/
set_option linter.unusedVariables false
set_option linter.unusedSimpArgs false
namespace Go.Proofs.YtobkigllalbkiaaV.M
open Go.RowKit Go.Proofs.YtobkigllalbkiaaV
open Classical
theorem m82_eq (K : Nat) (l : List S_Handle) (hl : l.length ≤ 1000) : m82 K l = some l := by
  unfold m82
  rw [L.apds_in (by simp only [List.length_nil]; omega), List.nil_append]
theorem m102_eq (K : Nat) (a : S_Arena) (hl : a.Slots.length ≤ 1000) : m102 K a = some a := by
  unfold m102
  rw [L.mks_in (by omega) (by omega), L.lete_in]
  congr 1
  cases a with
  | mk l =>
    simp only [cpyV]
    congr 1
    simp
/-- Small enough to be copied. -/
structure Small (g : S_Graph) : Prop where
  kids : g.Kids.length ≤ 500
  slots : g.Arena.Slots.length ≤ 500
  rows : ∀ (j : Nat) (l : List S_Handle), g.Kids[j]? = some l → l.length ≤ 900
theorem Shape.small {g : S_Graph} (h : Shape g) : Small g where
  kids := by have := h.len; have := h.arena.1; omega
  slots := by have := h.arena.1; omega
  rows := fun j l hl => by have := (h.rows j l hl).1; omega
theorem take_succ_get {α : Type} {l : List α} {i : Nat} {x : α} (h : l[i]? = some x) : l.take (i + 1) = l.take i ++ [x] := by
  obtain ⟨hl, rfl⟩ := List.getElem?_eq_some_iff.1 h
  rw [List.take_succ_eq_append_getElem hl]
theorem m53_eq {K : Nat} (hK : 1000 ≤ K) {g : S_Graph} (S : Small g) : m53 K g = some g := by
  have h1 := S.kids
  unfold m53
  rw [m102_eq K g.Arena (by have := S.slots; omega), Option.bind_some]
  refine L.loop (σ := List (List S_Handle) × Int) g.Kids.length (fun k s => m53_l1 K g g.Arena k s.1 s.2) (fun rec s => m53_l1b K g g.Arena (fun a b => rec (a, b)) s.1 s.2) (fun k => rfl)
    (fun i s => s = (g.Kids.take i, (i : Int))) (fun o => o = some g) ?_ ?_ K 0 ([], 0) (Nat.zero_le _) (by omega) rfl
  · rintro i s rec hi rfl hrec
    have g1 := L.lt_get hi
    generalize g.Kids[i] = l at g1
    show m53_l1b K g g.Arena (fun a b => rec (a, b)) (g.Kids.take i) (i : Int) = _
    unfold m53_l1b
    rw [L.dec_t hi, cond_true, L.idx_nat g1, m82_eq K l (by have := S.rows i l g1; omega), Option.bind_some, L.apd_in (by rw [List.length_take]; omega), L.ck_succ (by omega)]
    exact hrec _ (by rw [take_succ_get g1])
  · rintro s rec rfl
    show m53_l1b K g g.Arena (fun a b => rec (a, b)) (g.Kids.take g.Kids.length) (g.Kids.length : Int) = _
    unfold m53_l1b
    rw [L.dec_f (Nat.lt_irrefl _), cond_false, List.take_length]
def freeS (s : S_Slot) : Bool := !s.Live && decide (s.Gen < 1073741824)
/-- An arena's slots with one more in use, and its handle. -/
def mkA (l : List S_Slot) : Option (List S_Slot × S_Handle) :=
  match l.findIdx? freeS with
  | some i => (l[i]?).map fun s => (l.set i ⟨s.Gen + 1, true⟩, ⟨(i : Int), s.Gen + 1⟩)
  | none => if l.length = 128 then none else some (l ++ [⟨1, true⟩], ⟨(l.length : Int), 1⟩)
def noG : S_Graph := ⟨⟨[]⟩, []⟩
def noH : S_Handle := ⟨0, 0⟩
def outA (x : Option (List S_Slot × S_Handle)) : S_Arena × S_Handle × Int := match x with | some x => (⟨x.1⟩, x.2, 0) | none => (⟨[]⟩, noH, 9)
theorem m125_eq (K : Nat) (s : S_Slot) : m125 K 1073741824 s = some (freeS s) := by
  unfold m125 freeS
  cases s.Live <;> simp
theorem findIdx_get {l : List S_Slot} {i : Nat} (h : l.findIdx? freeS = some i) : ∃ s, l[i]? = some s ∧ s.Live = false ∧ s.Gen < 1073741824 := by
  obtain ⟨hl, hp, _⟩ := List.findIdx?_eq_some_iff_getElem.1 h
  refine ⟨_, L.lt_get hl, ?_⟩
  simpa [freeS] using hp
theorem m94_eq (K : Nat) {a : S_Arena} (hA : ArenaOK a) : m94 K a = some (outA (mkA a.Slots)) := by
  have h128 := hA.1
  unfold m94
  rw [m88_eq, Option.bind_some, if_pos hA, m102_eq K a (by omega), Option.bind_some, L.any_pure a.Slots 0 (fun x _ => m125_eq K x), Option.bind_some]
  unfold mkA
  show (bif _ then _ else _) = _
  cases hf : a.Slots.findIdx? freeS with
  | some i =>
    obtain ⟨s, g1, hL, hG⟩ := findIdx_get hf
    have hs := hA.2 s (List.mem_iff_getElem?.2 ⟨i, g1⟩)
    have hi := (List.getElem?_eq_some_iff.1 g1).1
    have e0 : (0 : Int) + (i : Int) = (i : Int) := by omega
    simp only [e0, decide_eq_true (by omega : (0 : Int) ≤ (i : Int)), cond_true, L.idx_nat g1, g1, Option.map_some]
    rw [L.ck_in (by omega) (by omega), L.lete_in]
    unfold m94_j1
    rw [L.idx_nat (a := (⟨s.Gen + 1, true⟩ : S_Slot)) (by rw [Int.toNat_natCast, List.getElem?_set_self hi])]
    rfl
  | none =>
    simp only [show decide ((0 : Int) ≤ -1) = false from rfl, cond_false]
    by_cases h : a.Slots.length = 128
    · rw [if_pos h, h]; rfl
    · rw [if_neg h, show ((a.Slots.length : Int) == 128) = false by simp; omega, cond_false, L.apd_in (by omega)]
      unfold m94_j1
      rw [L.idx_nat (a := (⟨1, true⟩ : S_Slot)) (by simp)]
      rfl
/-- A graph with one more node. -/
def mkG (may : Bool) (g : S_Graph) : S_Graph × S_Handle × Int :=
  if may then match mkA g.Arena.Slots with
    | some x => (⟨⟨x.1⟩, g.Kids ++ List.replicate (x.1.length - g.Kids.length) []⟩, x.2, 0)
    | none => (noG, noH, 9)
  else (noG, noH, 8)
theorem mkA_len {l l' : List S_Slot} {h : S_Handle} (e : mkA l = some (l', h)) : l.length ≤ l'.length ∧ l'.length ≤ l.length + 1 := by
  unfold mkA at e
  split at e
  · obtain ⟨s, _, e⟩ := Option.map_eq_some_iff.1 e
    cases e; simp
  · split at e
    · cases e
    · cases e; simp
theorem m45_eq {K : Nat} (hK : 1000 ≤ K) (g : S_Graph) : m45 K g = some (mkG (decide (May g)) g) := by
  unfold m45 mkG
  rw [m79_eq hK g [] (by simp), Option.bind_some]
  by_cases hM : May g
  · have h128 := hM.arena.1
    rw [if_pos hM, if_pos (by simp), decide_eq_true hM, if_pos rfl]
    show (m94 K g.Arena).bind _ = _
    rw [m94_eq K hM.arena, Option.bind_some]
    cases hm : mkA g.Arena.Slots with
    | none => rfl
    | some x =>
      obtain ⟨l', h⟩ := x
      have hl := mkA_len hm
      show tl45 K g (⟨l'⟩, h, 0) = _
      unfold tl45
      rw [m53_eq hK hM.toShape.small, Option.bind_some, if_pos (show l'.length * 24 ≤ 140737488355328 by omega)]
  · rw [if_neg hM, decide_eq_false hM]; rfl
def killA (l : List S_Slot) (h : S_Handle) : List S_Slot := l.set h.Slot.toNat ⟨h.Gen, false⟩
/-- A graph with one node less. -/
def killG (may held : Bool) (g : S_Graph) (h : S_Handle) : S_Graph × Int :=
  if may then if held then (⟨⟨killA g.Arena.Slots h⟩, (g.Kids.set h.Slot.toNat []).map (fun l => l.filter fun x => !eqH h x)⟩, 0) else (noG, 50) else (noG, 8)
theorem m83_eq (K : Nat) {a : S_Arena} {h : S_Handle} (hA : ArenaOK a) (hH : HeldA a h) : m83 K a h = some (⟨killA a.Slots h⟩, 0) := by
  have h128 := hA.1
  obtain ⟨h0, s, g1, e1, e2⟩ := id hH
  unfold m83 killA
  rw [m88_eq, Option.bind_some, if_pos hA, m120_eq, Option.bind_some, decide_eq_true hH, m102_eq K a (by omega), Option.bind_some]
  show idx a.Slots h.Slot _ = _
  rw [L.idx_in h0 g1, L.lete_in, e1]
theorem m40_eq {K : Nat} (hK : 1000 ≤ K) (g : S_Graph) (h : S_Handle) : m40 K g h = some (killG (decide (May g)) (decide (HeldA g.Arena h)) g h) := by
  unfold m40 killG
  rw [m79_eq hK g [h] (by simp), Option.bind_some]
  by_cases hM : May g
  · have h128 := hM.arena.1
    have hlen := hM.len
    rw [if_pos hM, decide_eq_true hM, if_pos rfl]
    by_cases hH : HeldA g.Arena h
    · rw [if_pos (by simpa using hH), decide_eq_true hH, if_pos rfl]
      show tl40 K g h = _
      unfold tl40
      rw [m53_eq hK hM.toShape.small, Option.bind_some, m83_eq K hM.arena hH, Option.bind_some, if_pos]
      obtain ⟨h0, s, g1, _⟩ := hH
      have := (List.getElem?_eq_some_iff.1 g1).1
      exact ⟨h0, by omega, by omega⟩
    · rw [if_neg (by simpa using hH), decide_eq_false hH]; rfl
  · rw [if_neg hM, decide_eq_false hM]; rfl
/-- A graph with a child put into a node's. -/
def linkG (may held loop : Bool) (g : S_Graph) (p c : S_Handle) (at_ : Int) : S_Graph × Int :=
  if may then if held then
    if at_ < 0 ∨ ((kids g p).length : Int) < at_ then (noG, 2)
    else if 16 ≤ (kids g p).length then (noG, 9)
    else if loop then (noG, 60)
    else (⟨g.Arena, g.Kids.set p.Slot.toNat ((kids g p).take at_.toNat ++ c :: (kids g p).drop at_.toNat)⟩, 0)
  else (noG, 50) else (noG, 8)
theorem kids_get {g : S_Graph} (S : Shape g) {h : S_Handle} (hH : HeldA g.Arena h) : 0 ≤ h.Slot ∧ g.Kids[h.Slot.toNat]? = some (kids g h) := by
  obtain ⟨h0, s, g1, _⟩ := hH
  have hlt := (List.getElem?_eq_some_iff.1 g1).1
  have := S.len
  refine ⟨h0, ?_⟩
  unfold kids
  rw [L.lt_get (l := g.Kids) (i := h.Slot.toNat) (by omega)]; rfl
theorem m38_eq {K : Nat} (hK : 1000 ≤ K) (g : S_Graph) (p c : S_Handle) (at_ : Int) : m38 K g p c at_ = some (linkG (decide (May g)) (decide (HeldA g.Arena p ∧ HeldA g.Arena c)) (decide (Reach g c p)) g p c at_) := by
  unfold m38 linkG
  rw [m79_eq hK g [p, c] (by simp), Option.bind_some]
  by_cases hM : May g
  · have h128 := hM.arena.1
    have hlen := hM.len
    rw [if_pos hM, decide_eq_true hM, if_pos rfl]
    by_cases hH : HeldA g.Arena p ∧ HeldA g.Arena c
    · rw [if_pos (by simpa using hH), decide_eq_true hH, if_pos rfl]
      obtain ⟨h0, g1⟩ := kids_get hM.toShape hH.1
      have h16 := (hM.rows _ _ g1).1
      have key : ∀ b : Bool, m38_j1 K g p c at_ (kids g p) b = some (if b then (noG, 2) else if 16 ≤ (kids g p).length then (noG, 9) else if decide (Reach g c p) then (noG, 60)
          else if 0 ≤ at_ ∧ at_ ≤ ((kids g p).length : Int) then (⟨g.Arena, g.Kids.set p.Slot.toNat ((kids g p).take at_.toNat ++ c :: (kids g p).drop at_.toNat)⟩, 0) else (noG, 2)) ∨ (b = false ∧ ¬ (0 ≤ at_ ∧ at_ ≤ ((kids g p).length : Int))) := by
        intro b
        unfold m38_j1
        cases b with
        | true => left; rfl
        | false =>
          by_cases hr : 0 ≤ at_ ∧ at_ ≤ ((kids g p).length : Int)
          · left
            rw [cond_false]
            by_cases hf : 16 ≤ (kids g p).length
            · rw [show (((kids g p).length : Int) == 16) = true by simp; omega, if_neg (by simp), if_pos hf]; rfl
            · rw [show (((kids g p).length : Int) == 16) = false by simp; omega, cond_false, if_neg (by simp), if_neg hf, m80_eq hM.toShape.whole (by omega) hH.2, Option.bind_some]
              by_cases hR : Reach g c p
              · rw [decide_eq_true hR]; rfl
              · rw [decide_eq_false hR, cond_false, if_neg (by simp), if_pos hr]
                unfold tl38
                rw [m53_eq hK hM.toShape.small, Option.bind_some, L.idx_in h0 g1, if_pos ⟨hr.1, hr.2, by omega⟩]
          · right; exact ⟨rfl, hr⟩
      show idx g.Kids p.Slot _ = _
      rw [L.idx_in h0 g1]
      by_cases c1 : at_ < 0
      · rw [decide_eq_true c1, cond_true, if_pos (.inl c1)]; rfl
      · rw [decide_eq_false c1, cond_false]
        by_cases c2 : ((kids g p).length : Int) < at_
        · rw [decide_eq_true c2, if_pos (.inr c2)]; rfl
        · rw [decide_eq_false c2, if_neg (by omega)]
          rcases key false with k | ⟨_, k⟩
          · rw [k, if_neg (by simp), if_pos (show 0 ≤ at_ ∧ at_ ≤ ((kids g p).length : Int) by omega)]
          · exact absurd (show 0 ≤ at_ ∧ at_ ≤ ((kids g p).length : Int) by omega) k
    · rw [if_neg (by simpa using hH), decide_eq_false hH]; rfl
  · rw [if_neg hM, decide_eq_false hM]; rfl
/-- A graph with a child taken out of a node's. -/
def unlinkG (may held : Bool) (g : S_Graph) (p : S_Handle) (at_ : Int) : S_Graph × Int :=
  if may then if held then
    if at_ < 0 ∨ ((kids g p).length : Int) ≤ at_ then (noG, 2)
    else (⟨g.Arena, g.Kids.set p.Slot.toNat ((kids g p).take at_.toNat ++ (kids g p).drop (at_ + 1).toNat)⟩, 0)
  else (noG, 50) else (noG, 8)
theorem m41_eq {K : Nat} (hK : 1000 ≤ K) (g : S_Graph) (p : S_Handle) (at_ : Int) : m41 K g p at_ = some (unlinkG (decide (May g)) (decide (HeldA g.Arena p)) g p at_) := by
  unfold m41 unlinkG
  rw [m79_eq hK g [p] (by simp), Option.bind_some]
  by_cases hM : May g
  · rw [if_pos hM, decide_eq_true hM, if_pos rfl]
    by_cases hH : HeldA g.Arena p
    · rw [if_pos (by simpa using hH), decide_eq_true hH, if_pos rfl]
      obtain ⟨h0, g1⟩ := kids_get hM.toShape hH
      have h16 := (hM.rows _ _ g1).1
      show Option.bind _ _ = _
      by_cases c1 : at_ < 0
      · rw [decide_eq_true c1, if_pos (.inl c1)]; rfl
      · rw [decide_eq_false c1, cond_false, L.idx_in h0 g1, Option.bind_some]
        by_cases c2 : ((kids g p).length : Int) ≤ at_
        · rw [decide_eq_true c2, if_pos (.inr c2)]; rfl
        · rw [decide_eq_false c2, cond_false, if_neg (by omega)]
          unfold tl41
          rw [m53_eq hK hM.toShape.small, Option.bind_some, L.idx_in h0 g1, if_pos ⟨by omega, by omega⟩]
    · rw [if_neg (by simpa using hH), decide_eq_false hH]; rfl
  · rw [if_neg hM, decide_eq_false hM]; rfl
end Go.Proofs.YtobkigllalbkiaaV.M

/- Graphs, in plain Lean: what is answered may be. -/
set_option linter.unusedVariables false
set_option linter.unusedSimpArgs false
namespace Go.Proofs.YtobkigllalbkiaaV.M
open Go.RowKit Go.Proofs.YtobkigllalbkiaaV
open Classical
theorem Reach.sub {g g' : S_Graph} (hs : ∀ x, ∀ k ∈ kids g' x, k ∈ kids g x) {a b : S_Handle} (h : Reach g' a b) : Reach g a b := by
  induction h with
  | refl => exact .refl _
  | step hk _ ih => exact .step (hs _ _ hk) ih
theorem held_same {a : S_Arena} {h k : S_Handle} (hh : HeldA a h) (hk : HeldA a k) (e : h.Slot.toNat = k.Slot.toNat) : h = k := by
  obtain ⟨h0, s, g1, e1, _⟩ := hh
  obtain ⟨k0, t, g2, e2, _⟩ := hk
  rw [e] at g1
  rw [g1] at g2; cases g2
  apply pr_inj
  simp only [pr, Prod.mk.injEq]
  exact ⟨by omega, by rw [← e1, ← e2]⟩
theorem kids_of {g : S_Graph} {j : Nat} {l : List S_Handle} (h : g.Kids[j]? = some l) (x : S_Handle) (hx : x.Slot.toNat = j) : kids g x = l := by
  unfold kids; rw [hx, h]; rfl
/-- One more node. -/
theorem mk_may {g : S_Graph} (hM : May g) {l' : List S_Slot} {h : S_Handle} (e : mkA g.Arena.Slots = some (l', h)) : May ⟨⟨l'⟩, g.Kids ++ List.replicate (l'.length - g.Kids.length) []⟩ := by
  have hlen := hM.len
  have hA := hM.arena
  unfold mkA at e
  cases hf : g.Arena.Slots.findIdx? freeS with
  | some i =>
    rw [hf] at e
    obtain ⟨s, g1, hL, hG⟩ := findIdx_get hf
    have hi := (List.getElem?_eq_some_iff.1 g1).1
    simp only [g1, Option.map_some, Option.some.injEq, Prod.mk.injEq] at e
    obtain ⟨rfl, _⟩ := e
    have hz : (g.Arena.Slots.set i ⟨s.Gen + 1, true⟩).length - g.Kids.length = 0 := by rw [List.length_set]; omega
    rw [hz, List.replicate_zero, List.append_nil]
    have hs := hA.2 s (List.mem_iff_getElem?.2 ⟨i, g1⟩)
    have hold : ∀ x : S_Handle, HeldA g.Arena x → HeldA ⟨g.Arena.Slots.set i ⟨s.Gen + 1, true⟩⟩ x := by
      rintro x ⟨x0, t, g2, q1, q2⟩
      refine ⟨x0, t, ?_, q1, q2⟩
      rw [List.getElem?_set_ne]
      · exact g2
      · intro hx
        rw [hx, g2] at g1; cases g1
        rw [hL] at q2; cases q2
    have emp : ∀ l, g.Kids[i]? = some l → l = [] := fun l hl => by
      by_cases hn : l = []
      · exact hn
      · obtain ⟨t, g2, q⟩ := (hM.rows i l hl).2.1 hn
        rw [g1] at g2; cases g2
        rw [hL] at q; cases q
    refine ⟨⟨⟨by rw [List.length_set]; exact hA.1, fun t ht => ?_⟩, by rw [List.length_set]; exact hlen, fun j l hl => ?_⟩, fun j l hl => ?_⟩
    · rcases List.mem_or_eq_of_mem_set ht with ht | rfl
      · exact hA.2 t ht
      · simp only; omega
    · obtain ⟨r1, r2, r3⟩ := hM.rows j l hl
      refine ⟨r1, fun hn => ?_, fun x hx => hold x (r3 x hx)⟩
      obtain ⟨t, g2, q⟩ := r2 hn
      refine ⟨t, ?_, q⟩
      show (g.Arena.Slots.set i _)[j]? = _
      rw [List.getElem?_set_ne]
      · exact g2
      · rintro rfl; exact hn (emp l hl)
    · rintro ⟨t, g2, x, hx, hr⟩
      by_cases hij : i = j
      · subst hij
        rw [emp l hl] at hx; cases hx
      · have g2 : (g.Arena.Slots.set i _)[j]? = some t := g2
        rw [List.getElem?_set_ne hij] at g2
        exact hM.loose j l hl ⟨t, g2, x, hx, Reach.sub (g := g) (g' := ⟨⟨g.Arena.Slots.set i ⟨s.Gen + 1, true⟩⟩, g.Kids⟩) (fun _ _ hk => hk) hr⟩
  | none =>
    rw [hf] at e
    simp only at e
    split at e
    · cases e
    · rename_i h128
      simp only [Option.some.injEq, Prod.mk.injEq] at e
      obtain ⟨rfl, _⟩ := e
      have hz : (g.Arena.Slots ++ [(⟨1, true⟩ : S_Slot)]).length - g.Kids.length = 1 := by rw [List.length_append]; simp; omega
      rw [hz]
      show May ⟨⟨g.Arena.Slots ++ [(⟨1, true⟩ : S_Slot)]⟩, g.Kids ++ [[]]⟩
      have h1 := hA.1
      have hold : ∀ (j : Nat) (t : S_Slot), g.Arena.Slots[j]? = some t → (g.Arena.Slots ++ [(⟨1, true⟩ : S_Slot)])[j]? = some t := fun j t ht => by
        rw [List.getElem?_append_left (List.getElem?_eq_some_iff.1 ht).1]; exact ht
      have row : ∀ (j : Nat) (l : List S_Handle), (g.Kids ++ [[]])[j]? = some l → g.Kids[j]? = some l ∨ l = [] := fun j l hl => by
        rcases Nat.lt_or_ge j g.Kids.length with q | q
        · rw [List.getElem?_append_left q] at hl; exact .inl hl
        · rw [List.getElem?_append_right q] at hl
          cases hd : j - g.Kids.length with
          | zero => rw [hd] at hl; simp at hl; exact .inr hl
          | succ m => rw [hd] at hl; simp at hl
      have hk : ∀ x : S_Handle, kids ⟨⟨g.Arena.Slots ++ [(⟨1, true⟩ : S_Slot)]⟩, g.Kids ++ [[]]⟩ x = kids g x := fun x => by
        unfold kids
        simp only
        rcases Nat.lt_or_ge x.Slot.toNat g.Kids.length with q | q
        · rw [List.getElem?_append_left q]
        · rw [List.getElem?_append_right q, List.getElem?_eq_none q]
          cases x.Slot.toNat - g.Kids.length with
          | zero => rfl
          | succ m => simp
      refine ⟨⟨⟨by rw [List.length_append]; simp only [List.length_singleton]; omega, fun t ht => ?_⟩, by simp [hlen], fun j l hl => ?_⟩, fun j l hl => ?_⟩
      · rcases List.mem_append.1 ht with ht | ht
        · exact hA.2 t ht
        · simp at ht; subst ht; decide
      · rcases row j l hl with q | rfl
        · obtain ⟨r1, r2, r3⟩ := hM.rows j l q
          refine ⟨r1, fun hn => ?_, fun x hx => ?_⟩
          · obtain ⟨t, g2, q⟩ := r2 hn
            exact ⟨t, hold _ _ g2, q⟩
          · obtain ⟨x0, t, g2, q⟩ := r3 x hx
            exact ⟨x0, t, hold _ _ g2, q⟩
        · exact ⟨by simp, fun h => absurd rfl h, fun x hx => by cases hx⟩
      · rintro ⟨t, g2, x, hx, hr⟩
        rcases row j l hl with q | rfl
        · have hj : j < g.Arena.Slots.length := by rw [← hlen]; exact (List.getElem?_eq_some_iff.1 q).1
          have g2 : (g.Arena.Slots ++ [(⟨1, true⟩ : S_Slot)])[j]? = some t := g2
          rw [List.getElem?_append_left hj] at g2
          exact hM.loose j l q ⟨t, g2, x, hx, hr.sub fun y k hk' => by rw [hk] at hk'; exact hk'⟩
        · cases hx
/-- Rows that became less, slots that hold what they held. -/
theorem may_less {g g' : S_Graph} (hM : May g) (hA : ArenaOK g'.Arena) (hl : g'.Kids.length = g'.Arena.Slots.length)
    (hrow : ∀ (j : Nat) (l' : List S_Handle), g'.Kids[j]? = some l' → l' = [] ∨ ∃ l, g.Kids[j]? = some l ∧ l'.length ≤ l.length ∧ (∀ x ∈ l', x ∈ l ∧ HeldA g'.Arena x) ∧ g'.Arena.Slots[j]? = g.Arena.Slots[j]?) : May g' := by
  have hk : ∀ x, ∀ k ∈ kids g' x, k ∈ kids g x := fun x k hk => by
    unfold kids at hk ⊢
    cases hg : g'.Kids[x.Slot.toNat]? with
    | none => rw [hg] at hk; cases hk
    | some l' =>
      rw [hg] at hk
      have hk : k ∈ l' := hk
      rcases hrow _ l' hg with rfl | ⟨l, h1, _, h2, _⟩
      · cases hk
      · rw [h1]; exact (h2 k hk).1
  refine ⟨⟨hA, hl, fun j l' hl' => ?_⟩, fun j l' hl' => ?_⟩
  · rcases hrow j l' hl' with rfl | ⟨l, h1, h2, h3, h4⟩
    · exact ⟨by simp, fun h => absurd rfl h, fun x hx => by cases hx⟩
    · obtain ⟨r1, r2, r3⟩ := hM.rows j l h1
      refine ⟨by omega, fun hn => ?_, fun x hx => (h3 x hx).2⟩
      rw [h4]
      refine r2 ?_
      rintro rfl
      obtain ⟨x, hx⟩ := List.exists_mem_of_ne_nil _ hn
      have := (h3 x hx).1
      cases this
  · rintro ⟨t, g2, x, hx, hr⟩
    rcases hrow j l' hl' with rfl | ⟨l, h1, h2, h3, h4⟩
    · cases hx
    · rw [h4] at g2
      exact hM.loose j l h1 ⟨t, g2, x, (h3 x hx).1, hr.sub hk⟩
theorem set_get {α : Type} {l : List α} {i j : Nat} {x y : α} (h : (l.set i x)[j]? = some y) : (i = j ∧ y = x) ∨ (i ≠ j ∧ l[j]? = some y) := by
  by_cases hij : i = j
  · subst hij
    have hi : i < l.length := by have := (List.getElem?_eq_some_iff.1 h).1; rwa [List.length_set] at this
    rw [List.getElem?_set_self hi] at h
    cases h; exact .inl ⟨rfl, rfl⟩
  · rw [List.getElem?_set_ne hij] at h
    exact .inr ⟨hij, h⟩
/-- One node less. -/
theorem kill_may {g : S_Graph} (hM : May g) {h : S_Handle} (hH : HeldA g.Arena h) : May ⟨⟨killA g.Arena.Slots h⟩, (g.Kids.set h.Slot.toNat []).map (fun l => l.filter fun x => !eqH h x)⟩ := by
  have hA := hM.arena
  obtain ⟨h0, s, g1, e1, e2⟩ := id hH
  refine may_less hM ⟨by unfold killA; rw [List.length_set]; exact hA.1, fun t ht => ?_⟩ (by simp [killA, hM.len]) ?_
  · rcases List.mem_or_eq_of_mem_set ht with ht | rfl
    · exact hA.2 t ht
    · have := hA.2 s (List.mem_iff_getElem?.2 ⟨_, g1⟩)
      simp only; omega
  · intro j l' hl'
    have hl' : ((g.Kids.set h.Slot.toNat []).map (fun l => l.filter fun x => !eqH h x))[j]? = some l' := hl'
    rw [List.getElem?_map] at hl'
    obtain ⟨l, hl, rfl⟩ := Option.map_eq_some_iff.1 hl'
    rcases set_get hl with ⟨_, rfl⟩ | ⟨hne, hl⟩
    · left; rfl
    · right
      refine ⟨l, hl, List.length_filter_le _ _, fun x hx => ?_, by show (g.Arena.Slots.set _ _)[j]? = _; rw [List.getElem?_set_ne hne]⟩
      obtain ⟨hx1, hx2⟩ := List.mem_filter.1 hx
      refine ⟨hx1, ?_⟩
      have hxh := (hM.rows j l hl).2.2 x hx1
      obtain ⟨x0, t, g2, q⟩ := id hxh
      refine ⟨x0, t, ?_, q⟩
      show (g.Arena.Slots.set _ _)[x.Slot.toNat]? = _
      rw [List.getElem?_set_ne]
      · exact g2
      · intro e
        have := held_same hH hxh e
        subst this
        simp [eqH] at hx2
/-- A child taken out. -/
theorem unlink_may {g : S_Graph} (hM : May g) {p : S_Handle} (hH : HeldA g.Arena p) (a b : Nat) (hab : a ≤ b) : May ⟨g.Arena, g.Kids.set p.Slot.toNat ((kids g p).take a ++ (kids g p).drop b)⟩ := by
  refine may_less hM hM.arena (by simp [hM.len]) fun j l' hl' => .inr ?_
  obtain ⟨h0, g1⟩ := kids_get hM.toShape hH
  rcases set_get hl' with ⟨rfl, rfl⟩ | ⟨_, hl⟩
  · refine ⟨_, g1, ?_, fun x hx => ?_, rfl⟩
    · rw [List.length_append, List.length_take, List.length_drop]; omega
    · have hx' : x ∈ kids g p := by
        rcases List.mem_append.1 hx with hx | hx
        · exact List.mem_of_mem_take hx
        · exact List.mem_of_mem_drop hx
      exact ⟨hx', (hM.rows _ _ g1).2.2 x hx'⟩
  · exact ⟨l', hl, Nat.le_refl _, fun x hx => ⟨hx, (hM.rows _ _ hl).2.2 x hx⟩, rfl⟩
/-- A child put in. -/
theorem link_may {g : S_Graph} (hM : May g) {p c : S_Handle} (hp : HeldA g.Arena p) (hc : HeldA g.Arena c) (n : Nat) (h16 : (kids g p).length < 16) (hr : ¬ Reach g c p) :
    May ⟨g.Arena, g.Kids.set p.Slot.toNat ((kids g p).take n ++ c :: (kids g p).drop n)⟩ := by
  obtain ⟨p0, gp⟩ := kids_get hM.toShape hp
  have hplt := (List.getElem?_eq_some_iff.1 gp).1
  obtain ⟨row, hrow⟩ : ∃ row, (kids g p).take n ++ c :: (kids g p).drop n = row := ⟨_, rfl⟩
  have mem : ∀ x, x ∈ row → x ∈ kids g p ∨ x = c := fun x hx => by
    rw [← hrow] at hx
    rcases List.mem_append.1 hx with hx | hx
    · exact .inl (List.mem_of_mem_take hx)
    · rcases List.mem_cons.1 hx with rfl | hx
      · exact .inr rfl
      · exact .inl (List.mem_of_mem_drop hx)
  have rlen : row.length ≤ 16 := by rw [← hrow]; simp only [List.length_append, List.length_cons, List.length_take, List.length_drop]; omega
  rw [hrow]
  obtain ⟨g', hg'⟩ : ∃ g' : S_Graph, g' = ⟨g.Arena, g.Kids.set p.Slot.toNat row⟩ := ⟨_, rfl⟩
  have hkp : ∀ x : S_Handle, x.Slot.toNat = p.Slot.toNat → kids g' x = row := fun x hx => by
    rw [hg']; unfold kids; simp only; rw [hx, List.getElem?_set_self hplt]; rfl
  have hkn : ∀ x : S_Handle, x.Slot.toNat ≠ p.Slot.toNat → kids g' x = kids g x := fun x hx => by
    rw [hg']; unfold kids; simp only; rw [List.getElem?_set_ne (Ne.symm hx)]
  have hW := hM.toShape.whole
  have two : ∀ {x t : S_Handle}, Reach g' x t → HeldA g.Arena x → Reach g x t ∨ (Reach g x p ∧ Reach g c t) := by
    intro x t h
    induction h with
    | refl x => exact fun _ => .inl (.refl x)
    | @step x k t hk h ih =>
      intro hx
      by_cases he : x.Slot.toNat = p.Slot.toNat
      · have hxp := held_same hx hp he
        subst hxp
        rw [hkp x rfl] at hk
        rcases mem k hk with hk | rfl
        · rcases ih (hW.held x k hk) with q | ⟨q1, q2⟩
          · exact .inl (.step hk q)
          · exact .inr ⟨.step hk q1, q2⟩
        · rcases ih hc with q | ⟨_, q2⟩
          · exact .inr ⟨.refl _, q⟩
          · exact .inr ⟨.refl _, q2⟩
      · rw [hkn x he] at hk
        rcases ih (hW.held x k hk) with q | ⟨q1, q2⟩
        · exact .inl (.step hk q)
        · exact .inr ⟨.step hk q1, q2⟩
  have hMay : May g' := by
    refine ⟨⟨by rw [hg']; exact hM.arena, by rw [hg']; simp [hM.len], fun j l hl => ?_⟩, fun j l hl => ?_⟩
    · have hl : (g.Kids.set p.Slot.toNat row)[j]? = some l := by rw [hg'] at hl; exact hl
      have eA : g'.Arena = g.Arena := by rw [hg']
      rcases set_get hl with ⟨rfl, rfl⟩ | ⟨_, hl⟩
      · refine ⟨rlen, fun _ => ?_, fun x hx => ?_⟩
        · obtain ⟨_, s, g2, _, q⟩ := hp
          exact ⟨s, by rw [eA]; exact g2, q⟩
        · rw [eA]
          rcases mem x hx with hx | rfl
          · exact hW.held p x hx
          · exact hc
      · have := hM.rows j l hl
        unfold RowOK at this ⊢
        rw [eA]; exact this
    · rintro ⟨s, g2, x, hx, hrx⟩
      have hl : (g.Kids.set p.Slot.toNat row)[j]? = some l := by rw [hg'] at hl; exact hl
      have g2 : g.Arena.Slots[j]? = some s := by rw [hg'] at g2; exact g2
      rcases set_get hl with ⟨rfl, rfl⟩ | ⟨hne, hl⟩
      · have hxh : HeldA g.Arena x := by
          rcases mem x hx with hx | rfl
          · exact hW.held p x hx
          · exact hc
        obtain ⟨_, s2, g3, q1, _⟩ := id hp
        rw [g2] at g3; cases g3
        have ep : (⟨((p.Slot.toNat : Nat) : Int), s.Gen⟩ : S_Handle) = p := by
          cases p
          simp only [S_Handle.mk.injEq] at q1 p0 ⊢
          exact ⟨by omega, q1⟩
        rw [ep] at hrx
        rcases mem x hx with hx | rfl
        · rcases two hrx hxh with q | ⟨q1, q2⟩
          · exact hM.loose _ _ gp ⟨s, g2, x, hx, by rw [ep]; exact q⟩
          · exact hr q2
        · rcases two hrx hxh with q | ⟨q1, q2⟩
          · exact hr q
          · exact hr q1
      · have hxh := (hM.rows j l hl).2.2 x hx
        rcases two hrx hxh with q | ⟨q1, q2⟩
        · exact hM.loose j l hl ⟨s, g2, x, hx, q⟩
        · refine hr (q2.trans (.step ?_ q1))
          rw [kids_of hl _ (by simp)]; exact hx
  rw [hg'] at hMay
  exact hMay
end Go.Proofs.YtobkigllalbkiaaV.M

/- Graphs, in plain Lean, by their slots: what is below one, and loops; lists of truth values that grow. -/
set_option linter.unusedVariables false
set_option linter.unusedSimpArgs false
namespace Go.Proofs.YtobkigllalbkiaaV.M
open Go.RowKit Go.Proofs.YtobkigllalbkiaaV
open Classical
def ks (g : S_Graph) (j : Nat) : List S_Handle := (g.Kids[j]?).getD []
theorem ks_get {g : S_Graph} {j : Nat} {l : List S_Handle} (h : g.Kids[j]? = some l) : ks g j = l := by unfold ks; rw [h]; rfl
inductive SR (g : S_Graph) : Nat → Nat → Prop
  | refl (j) : SR g j j
  | step {j k t} : k ∈ ks g j → SR g k.Slot.toNat t → SR g j t
theorem SR.trans {g : S_Graph} {a b c : Nat} (h : SR g a b) (h2 : SR g b c) : SR g a c := by
  induction h with
  | refl => exact h2
  | step hk _ ih => exact .step hk (ih h2)
theorem reach_sr {g : S_Graph} {h t : S_Handle} (hr : Reach g h t) : SR g h.Slot.toNat t.Slot.toNat := by
  induction hr with
  | refl => exact .refl _
  | step hk _ ih => exact .step hk ih
theorem held_eq {a : S_Arena} {h k : S_Handle} (hh : HeldA a h) (hk : HeldA a k) (e : h.Slot.toNat = k.Slot.toNat) : h = k := by
  obtain ⟨h0, s, g1, e1, _⟩ := hh
  obtain ⟨k0, t, g2, e2, _⟩ := hk
  rw [e] at g1
  rw [g1] at g2; cases g2
  apply pr_inj
  simp only [pr, Prod.mk.injEq]
  exact ⟨by omega, by rw [← e1, ← e2]⟩
theorem sr_reach {g : S_Graph} (W : Whole g) {t : S_Handle} (ht : HeldA g.Arena t) {i j : Nat} (hr : SR g i j) : j = t.Slot.toNat → ∀ h : S_Handle, h.Slot.toNat = i → HeldA g.Arena h → Reach g h t := by
  induction hr with
  | refl j =>
    intro hj h hi hh
    rw [held_eq hh ht (by omega)]
    exact .refl _
  | @step i k j hk _ ih =>
    intro hj h hi hh
    have hk2 : k ∈ kids g h := by unfold kids; rw [hi]; exact hk
    exact .step hk2 (ih hj k rfl (W.held h k hk2))
theorem reach_iff {g : S_Graph} (W : Whole g) {h t : S_Handle} (hh : HeldA g.Arena h) (ht : HeldA g.Arena t) : Reach g h t ↔ SR g h.Slot.toNat t.Slot.toNat :=
  ⟨reach_sr, fun hr => sr_reach W ht hr rfl h rfl hh⟩
theorem loopAt_iff {g : S_Graph} (S : Shape g) {j : Nat} {l : List S_Handle} (hl : g.Kids[j]? = some l) : LoopAt g j l ↔ ∃ k ∈ ks g j, SR g k.Slot.toNat j := by
  have hlt : j < g.Arena.Slots.length := by rw [← S.len]; exact (List.getElem?_eq_some_iff.1 hl).1
  have hs := L.lt_get hlt
  generalize g.Arena.Slots[j] = s at hs
  rw [ks_get hl]
  constructor
  · rintro ⟨s2, _, h, hh, hr⟩
    exact ⟨h, hh, by simpa using reach_sr hr⟩
  · rintro ⟨k, hk, hr⟩
    refine ⟨s, hs, k, hk, ?_⟩
    obtain ⟨_, r2, r3⟩ := S.rows j l hl
    obtain ⟨s2, g2, q⟩ := r2 (by rintro rfl; cases hk)
    rw [hs] at g2; cases g2
    have ht : HeldA g.Arena ⟨(j : Int), s.Gen⟩ := ⟨by simp, s, by simpa using hs, rfl, q⟩
    exact sr_reach S.whole ht hr (by simp) k rfl (r3 k hk)
/-- All below it ends. -/
inductive Fin' (g : S_Graph) : Nat → Prop
  | mk (j) : (∀ k ∈ ks g j, Fin' g k.Slot.toNat) → Fin' g j
theorem fin_not {g : S_Graph} {j : Nat} (h : Fin' g j) : ¬ ∃ k ∈ ks g j, SR g k.Slot.toNat j := by
  induction h with
  | mk j hj ih =>
    rintro ⟨k, hk, hr⟩
    cases hr with
    | refl => exact ih k hk ⟨k, hk, .refl _⟩
    | step hk2 hr2 => exact ih k hk ⟨_, hk2, hr2.trans (.step hk (.refl _))⟩
theorem kid_lt {g : S_Graph} (W : Whole g) {j : Nat} {k : S_Handle} (hk : k ∈ ks g j) : 0 ≤ k.Slot ∧ k.Slot.toNat < g.Kids.length := by
  have := W.held ⟨(j : Int), 0⟩ k (show k ∈ (g.Kids[((j : Nat) : Int).toNat]?).getD [] from by rw [Int.toNat_natCast]; exact hk)
  obtain ⟨h0, s, g1, _⟩ := this
  rw [W.len]
  exact ⟨h0, (List.getElem?_eq_some_iff.1 g1).1⟩
theorem not_fin {g : S_Graph} (W : Whole g) (hn : ∀ j, j < g.Kids.length → ¬ ∃ k ∈ ks g j, SR g k.Slot.toNat j) : ∀ (m j : Nat), j < g.Kids.length → ((List.range g.Kids.length).filter fun i => decide (SR g j i)).length ≤ m → Fin' g j
  | m, j, hj, hm => by
    refine .mk j fun k hk => ?_
    obtain ⟨_, hkl⟩ := kid_lt W hk
    have hlt : ((List.range g.Kids.length).filter fun i => decide (SR g k.Slot.toNat i)).length < ((List.range g.Kids.length).filter fun i => decide (SR g j i)).length := by
      refine filter_lt (a := j) (fun i hi => ?_) ?_ ?_ (List.mem_range.2 hj)
      · exact decide_eq_true (.step hk (of_decide_eq_true hi))
      · exact decide_eq_true (.refl j)
      · exact decide_eq_false fun hr => hn j hj ⟨k, hk, hr⟩
    cases m with
    | zero => omega
    | succ m => exact not_fin W hn m k.Slot.toNat hkl (by omega)
theorem loose_iff {g : S_Graph} (S : Shape g) : (∀ j l, g.Kids[j]? = some l → ¬ LoopAt g j l) ↔ ∀ j, j < g.Kids.length → Fin' g j := by
  constructor
  · intro h j hj
    refine not_fin S.whole (fun i hi hc => ?_) _ j hj (Nat.le_refl _)
    exact h i _ (L.lt_get hi) ((loopAt_iff S (L.lt_get hi)).2 hc)
  · intro h j l hl hc
    exact fin_not (h j (List.getElem?_eq_some_iff.1 hl).1) ((loopAt_iff S hl).1 hc)
/-! ### truth values -/
theorem mono_count : ∀ (a b : List Bool), a.length = b.length → (∀ j : Nat, a[j]? = some true → b[j]? = some true) → a.count true ≤ b.count true ∧ (a.count true = b.count true → a = b)
  | [], [], _, _ => ⟨Nat.le_refl _, fun _ => rfl⟩
  | x :: a, y :: b, hl, h => by
    obtain ⟨h1, h2⟩ := mono_count a b (by simpa using hl) (fun j hj => by simpa using h (j + 1) (by simpa using hj))
    have h0 := h 0
    cases x <;> cases y <;> simp at h0 ⊢
    · exact ⟨h1, h2⟩
    · exact ⟨by omega, fun hc => absurd hc (by omega)⟩
    · exact ⟨h1, h2⟩
  | [], _ :: _, hl, _ => by simp at hl
  | _ :: _, [], hl, _ => by simp at hl
theorem all_count : ∀ (a : List Bool), a.count true = a.length → ∀ j : Nat, j < a.length → a[j]? = some true
  | [], _, j, hj => by simp at hj
  | x :: a, h, j, hj => by
    have hle : a.count true ≤ a.length := List.count_le_length
    cases x with
    | false => simp at h; omega
    | true =>
      cases j with
      | zero => rfl
      | succ j =>
        rw [List.count_cons_self, List.length_cons] at h
        simpa using all_count a (by omega) j (by simpa using hj)
theorem count_all : ∀ (a : List Bool), (∀ j : Nat, j < a.length → a[j]? = some true) → a.count true = a.length
  | [], _ => rfl
  | x :: a, h => by
    have h0 := h 0 (by simp)
    simp at h0; subst h0
    have := count_all a fun j hj => by simpa using h (j + 1) (by simpa using hj)
    simp only [List.count_cons_self, List.length_cons, this]
theorem count_set : ∀ (a : List Bool) (j : Nat), a[j]? = some false → (a.set j true).count true = a.count true + 1
  | [], j, h => by simp at h
  | x :: a, 0, h => by simp at h; subst h; simp
  | x :: a, j + 1, h => by
    have := count_set a j (by simpa using h)
    cases x <;> simp [this]
theorem set_mono {a : List Bool} {i j : Nat} (h : a[j]? = some true) : (a.set i true)[j]? = some true := by
  by_cases hij : i = j
  · subst hij
    rw [List.getElem?_set_self (List.getElem?_eq_some_iff.1 h).1]
  · rw [List.getElem?_set_ne hij]; exact h
theorem set_get_b {a : List Bool} {i j : Nat} (h : (a.set i true)[j]? = some true) : i = j ∨ a[j]? = some true := by
  by_cases hij : i = j
  · exact .inl hij
  · rw [List.getElem?_set_ne hij] at h; exact .inr h
end Go.Proofs.YtobkigllalbkiaaV.M

/- A plain Lean function that answers as the Go function does (none: not told), and the proof that a call answers so. Written by program. -/
set_option linter.unusedVariables false
namespace Go.Proofs.YtobkigllalbkiaaV.M
open Go.RowKit Go.Proofs.YtobkigllalbkiaaV
def m127_l1b (K : Nat) (a0 : S_Arena) (rec1 : Int → Option (Bool)) (y3_1 : Int) : Option (Bool) :=
 (bif (decide (y3_1 < (a0.Slots.length : Int))) then (idx a0.Slots y3_1 fun el9 => ((bif (decide (el9.Gen < 1)) then some true else (idx a0.Slots y3_1 fun el17 => some (decide (1073741824 < el17.Gen)))).bind fun b16 => (bif b16 then some false else (ck (y3_1 + 1) fun x26 => (rec1 x26))))) else some (decide ((a0.Slots.length : Int) ≤ 128)))
def m127_l1 (K : Nat) (a0 : S_Arena) : Nat → Int → Option (Bool)
 | 0 => fun _ => none
 | k + 1 => m127_l1b K a0 (m127_l1 K a0 k)
/-- diorama/dioramaref05.May -/
def m127 (K : Nat) (a0 : S_Arena) : Option (Bool) :=
 m127_l1 K a0 K 0
set_option maxRecDepth 100000 in
set_option maxHeartbeats 4000000 in
theorem c127 (ok : Okp) (K : Nat) (w : World) (a0 : S_Arena) (A1 : Option Addr) (cp2 : Nat) (hR3 : Rd k_Slot w ok A1 cp2 a0.Slots) (res : Bool) (hm : m127 K a0 = some res) :
  Calls Try.prog 127 #[.agg #[.slice A1 a0.Slots.length cp2]] w (fun e w' => e = .returned (tup [.bool res]) ∧ Sep ok w w' [] []) := by
 refine calls_W (args := [.agg #[.slice A1 a0.Slots.length cp2]]) Try.func127 rfl Try.ntmps127 Try.results127 rfl fun r hr => ?_
 obtain ⟨r1, rfl⟩ := regen (r := r) [(0, .agg #[.slice A1 a0.Slots.length cp2])] ⟨hr 0 _ rfl, trivial⟩
 have H : Sep ok w w [] [RE.rd k_Slot A1 cp2 a0.Slots] := Sep.arg (Sep.start ok w) (re := RE.rd k_Slot A1 cp2 a0.Slots) rfl rfl hR3
 unfold m127 at hm
 refine W_seq ?_
 refine W_region ?_
 refine RL_cons (O_box (by exact wn0 rfl) (by rfl) (by rfl) (by rfl) H (fun w6 b5 (H : Sep ok w w6 [.blk b5 76 [.slice A1 a0.Slots.length cp2]] [RE.rd k_Slot A1 cp2 a0.Slots]) => ?_))
 refine RL_p (x_assign (v := .bool false) (by rfl)) ?_
 refine RL_nil ?_
 refine W_seq ?_
 refine W_seq ?_
 refine W_region ?_
 refine RL_p (x_assign (v := .int .i64 0) (by rfl)) ?_
 refine RL_nil ?_
 refine W_block ?_
 refine W_loop (fun k1 r' w' => ∃ (y3_1 : Int), m127_l1 K a0 k1 y3_1 = some res ∧ Agr [(1, .pointer (some ⟨b5, 0, none⟩)), (3, .int .i64 y3_1)] r' ∧ Sep ok w w' [.blk b5 76 [.slice A1 a0.Slots.length cp2]] [RE.rd k_Slot A1 cp2 a0.Slots]) K ?_ ?_
 ·exact ⟨0, hm, ⟨rfl, rfl, trivial⟩, H⟩
 ·rintro k1 r' w' ⟨y3_1, hm, hA, H⟩
  obtain ⟨r7, rfl⟩ := regen _ hA; clear hA
  obtain ⟨w8, rfl⟩ : ∃ W : World, W = w' := ⟨_, rfl⟩
  cases k1 with
  | zero => exact (none_some hm).elim
  | succ k1 =>
   have hm : m127_l1b K a0 (m127_l1 K a0 k1) y3_1 = some res := hm
   unfold m127_l1b at hm
   obtain ⟨rec1, hrec1⟩ : ∃ f, m127_l1 K a0 k1 = f := ⟨_, rfl⟩
   rw [hrec1] at hm
   refine W_seq ?_
   refine W_seq ?_
   refine W_region ?_
   refine RL_p (x_move (v := .int .i64 y3_1) (by rfl)) ?_
   refine RL_p (x_fieldAddr fo76_0 (by rfl)) ?_
   refine RL_p (x_load (j := 0) (v := .slice A1 a0.Slots.length cp2) sc74 (by rfl) (H.cells (i := 0) (by rfl)) (by rfl)) ?_
   refine RL_p (x_len sl74 (by rfl)) ?_
   refine RL_p (x_lss (by rfl) (by rfl)) ?_
   refine RL_nil ?_
   refine W_cond (by rfl) (fun hb => ?_) (fun hb => ?_)
   ·have hm := cond_t hb hm
    refine W_skip ?_
    refine W_seq ?_
    refine W_block ?_
    refine W_seq ?_
    refine W_region ?_
    refine RL_p (x_fieldAddr fo76_0 (by rfl)) ?_
    refine RL_p (x_load (j := 0) (v := .slice A1 a0.Slots.length cp2) sc74 (by rfl) (H.cells (i := 0) (by rfl)) (by rfl)) ?_
    refine RL_p (x_move (v := .int .i64 y3_1) (by rfl)) ?_
    obtain ⟨el9, h10, h11, he12, hm⟩ := idx_some hm
    obtain ⟨g14, o15, hA13⟩ := (H.rd (i := 0) (by rfl)).addr he12
    refine RL_p (x_indexAddr sl74 sz96 (by rfl) (by rfl) hA13 h10 h11) ?_
    refine RL_p (x_fieldAddr fo96_0 (by rfl)) ?_
    refine RL_p (x_load (j := 0) (v := .int .i64 el9.Gen) sc3 (by rfl) (Rd.flatAt (n := 2) (H.rd (i := 0) (by rfl)) hA13 he12) (by rfl)) ?_
    refine RL_p (x_lss (by rfl) (by rfl)) ?_
    refine RL_p (x_move (v := .bool (decide (el9.Gen < 1))) (by rfl)) ?_
    obtain ⟨b16, hmS, hm⟩ := bind_some hm
    refine RL_cut 8 (fun r' w' => Agr [(26, .bool b16), (1, .pointer (some ⟨b5, 0, none⟩)), (3, .int .i64 y3_1)] r' ∧ Sep ok w w' [.blk b5 76 [.slice A1 a0.Slots.length cp2]] [RE.rd k_Slot A1 cp2 a0.Slots]) ?_ ?_
    ·cases hbS : (decide (el9.Gen < 1))
     ·have hm := cond_f hbS hmS
      refine RL_pure (by exact wn1 rfl rfl rfl rfl) (by rfl) (by rfl) (x_fieldAddr fo76_0 (by rfl)) ?_
      refine RL_pure (by exact wn1 rfl rfl rfl rfl) (by rfl) (by rfl) (x_load (j := 0) (v := .slice A1 a0.Slots.length cp2) sc74 (by rfl) (H.cells (i := 0) (by rfl)) (by rfl)) ?_
      refine RL_pure (by exact wn1 rfl rfl rfl rfl) (by rfl) (by rfl) (x_move (v := .int .i64 y3_1) (by rfl)) ?_
      obtain ⟨el17, h18, h19, he20, hm⟩ := idx_some hm
      obtain ⟨g22, o23, hA21⟩ := (H.rd (i := 0) (by rfl)).addr he20
      refine RL_pure (by exact wn1 rfl rfl rfl rfl) (by rfl) (by rfl) (x_indexAddr sl74 sz96 (by rfl) (by rfl) hA21 h18 h19) ?_
      refine RL_pure (by exact wn1 rfl rfl rfl rfl) (by rfl) (by rfl) (x_fieldAddr fo96_0 (by rfl)) ?_
      refine RL_pure (by exact wn1 rfl rfl rfl rfl) (by rfl) (by rfl) (x_load (j := 0) (v := .int .i64 el17.Gen) sc3 (by rfl) (Rd.flatAt (n := 2) (H.rd (i := 0) (by rfl)) hA21 he20) (by rfl)) ?_
      refine RL_pure (by exact wn1 rfl rfl rfl rfl) (by rfl) (by rfl) (x_gtr (by rfl) (by rfl)) ?_
      refine RL_p (x_pick_f (v := .bool (decide (1073741824 < el17.Gen))) (by rfl) (by rfl)) ?_
      refine RL_nil ?_
      exact ⟨⟨congrArg Value.bool (Option.some.inj hm), rfl, rfl, trivial⟩, H⟩
     ·have hm := cond_t hbS hmS
      refine RL_cons (OpR_off (by exact wn2 rfl rfl rfl rfl) (by rfl) (by rfl) ?_)
      refine RL_cons (OpR_off (by exact wn2 rfl rfl rfl rfl) (by rfl) (by rfl) ?_)
      refine RL_cons (OpR_off (by exact wn2 rfl rfl rfl rfl) (by rfl) (by rfl) ?_)
      refine RL_cons (OpR_off (by exact wn2 rfl rfl rfl rfl) (by rfl) (by rfl) ?_)
      refine RL_cons (OpR_off (by exact wn2 rfl rfl rfl rfl) (by rfl) (by rfl) ?_)
      refine RL_cons (OpR_off (by exact wn2 rfl rfl rfl rfl) (by rfl) (by rfl) ?_)
      refine RL_cons (OpR_off (by exact wn2 rfl rfl rfl rfl) (by rfl) (by rfl) ?_)
      refine RL_p (x_pick_t (v := .bool true) (by rfl) (by rfl)) ?_
      refine RL_nil ?_
      exact ⟨⟨congrArg Value.bool (Option.some.inj hm), rfl, rfl, trivial⟩, H⟩
    ·rintro r' w' ⟨hA, H⟩
     obtain ⟨r24, rfl⟩ := regen _ hA; clear hA
     obtain ⟨w25, rfl⟩ : ∃ W : World, W = w' := ⟨_, rfl⟩
     show RL _ _ _ _ _ _ _
     refine RL_nil ?_
     refine W_cond (by rfl) (fun hb => ?_) (fun hb => ?_)
     ·have hm := cond_t hb hm
      refine W_seq ?_
      refine W_region ?_
      refine RL_p (x_assign (v := .bool false) (by rfl)) ?_
      refine RL_nil ?_
      refine W_ret ?_
      obtain rfl := Option.some.inj hm
      exact ⟨[.bool false], (.tmp (by rfl) rfl), rfl, H.none_⟩
     ·have hm := cond_f hb hm
      refine W_skip ?_
      refine W_region ?_
      refine RL_p (x_move (v := .int .i64 y3_1) (by rfl)) ?_
      obtain ⟨x26, ex26, qx26, ux26, hm⟩ := ck_some hm
      refine RL_p (x_add (by rfl) (by rfl) ux26) ?_
      refine RL_p (x_assign (v := .int .i64 x26) (by rfl)) ?_
      refine RL_nil ?_
      subst hrec1
      exact ⟨k1, Nat.lt_succ_self k1, x26, hm, ⟨rfl, rfl, trivial⟩, H⟩
   ·have hm := cond_f hb hm
    refine W_exit ?_
    refine W_seq ?_
    refine W_region ?_
    refine RL_p (x_fieldAddr fo76_0 (by rfl)) ?_
    refine RL_p (x_load (j := 0) (v := .slice A1 a0.Slots.length cp2) sc74 (by rfl) (H.cells (i := 0) (by rfl)) (by rfl)) ?_
    refine RL_p (x_len sl74 (by rfl)) ?_
    refine RL_p (x_leq (by rfl) (by rfl)) ?_
    refine RL_p (x_assign (v := .bool (decide ((a0.Slots.length : Int) ≤ 128))) (by rfl)) ?_
    refine RL_nil ?_
    refine W_ret ?_
    obtain rfl := Option.some.inj hm
    exact ⟨[.bool (decide ((a0.Slots.length : Int) ≤ 128))], (.tmp (by rfl) rfl), rfl, H.none_⟩
end Go.Proofs.YtobkigllalbkiaaV.M

/- A plain Lean function that answers as the Go function does (none: not told), and the proof that a call answers so. Written by program. -/
set_option linter.unusedVariables false
namespace Go.Proofs.YtobkigllalbkiaaV.M
open Go.RowKit Go.Proofs.YtobkigllalbkiaaV
/-- diorama/dioramaref05.Held -/
def m128 (K : Nat) (a0 : S_Arena) (a1 : S_Handle) : Option (Bool) :=
 ((bif (decide (0 ≤ a1.Slot)) then some (decide (a1.Slot < (a0.Slots.length : Int))) else some false).bind fun b10 => ((bif b10 then (idx a0.Slots a1.Slot fun el14 => some el14.Live) else some false).bind fun b13 => ((bif b13 then (idx a0.Slots a1.Slot fun el24 => some (el24.Gen == a1.Gen)) else some false).bind fun b23 => some b23)))
set_option maxRecDepth 100000 in
set_option maxHeartbeats 4000000 in
theorem c128 (ok : Okp) (K : Nat) (w : World) (a0 : S_Arena) (A1 : Option Addr) (cp2 : Nat) (a1 : S_Handle) (hR3 : Rd k_Slot w ok A1 cp2 a0.Slots) (res : Bool) (hm : m128 K a0 a1 = some res) :
  Calls Try.prog 128 #[.agg #[.slice A1 a0.Slots.length cp2], .agg #[.int .i64 a1.Slot, .int .i64 a1.Gen]] w (fun e w' => e = .returned (tup [.bool res]) ∧ Sep ok w w' [] []) := by
 refine calls_W (args := [.agg #[.slice A1 a0.Slots.length cp2], .agg #[.int .i64 a1.Slot, .int .i64 a1.Gen]]) Try.func128 rfl Try.ntmps128 Try.results128 rfl fun r hr => ?_
 obtain ⟨r1, rfl⟩ := regen (r := r) [(0, .agg #[.slice A1 a0.Slots.length cp2]), (1, .agg #[.int .i64 a1.Slot, .int .i64 a1.Gen])] ⟨hr 0 _ rfl, hr 1 _ rfl, trivial⟩
 have H : Sep ok w w [] [RE.rd k_Slot A1 cp2 a0.Slots] := Sep.arg (Sep.start ok w) (re := RE.rd k_Slot A1 cp2 a0.Slots) rfl rfl hR3
 unfold m128 at hm
 refine W_seq ?_
 refine W_region ?_
 refine RL_cons (O_box (by exact wn0 rfl) (by rfl) (by rfl) (by rfl) H (fun w6 b5 (H : Sep ok w w6 [.blk b5 76 [.slice A1 a0.Slots.length cp2]] [RE.rd k_Slot A1 cp2 a0.Slots]) => ?_))
 refine RL_cons (O_box (by exact wn0 rfl) (by rfl) (by rfl) (by rfl) H (fun w8 b7 (H : Sep ok w w8 [.blk b5 76 [.slice A1 a0.Slots.length cp2], HNB b7 a1] [RE.rd k_Slot A1 cp2 a0.Slots]) => ?_))
 refine RL_p (x_assign (v := .bool false) (by rfl)) ?_
 refine RL_nil ?_
 refine W_seq ?_
 refine W_draw [.free 0, .take 1, .free 2, .free 3, .free 4, .take 5, .free 6, .take 7, .free 8, .free 9, .free 10, .free 11, .free 12, .take 13, .free 14, .take 15, .free 16, .free 17, .take 18, .free 19, .free 20, .free 21, .take 22, .free 23, .take 24, .free 25, .free 26, .take 27, .free 28, .take 29, .free 30, .free 31, .free 32] (fun wS => Sep ok w wS [.blk b5 76 [.slice A1 a0.Slots.length cp2], HNB b7 a1] [RE.rd k_Slot A1 cp2 a0.Slots]) [] [0, 2, 3, 4, 6, 8, 9, 10, 11, 12, 14, 16, 17, 19, 20, 21, 23, 25, 26, 28, 30, 31, 32] mixed0 (by kernel_rfl) (by kernel_rfl) (by kernel_rfl) (by rfl) (by exact H.drew) ?_
 obtain ⟨w9, hW⟩ : ∃ W : World, W = { w8 with drawn := w8.drawn + 1 } := ⟨_, rfl⟩
 rw [← hW]
 have H : Sep ok w w9 [.blk b5 76 [.slice A1 a0.Slots.length cp2], HNB b7 a1] [RE.rd k_Slot A1 cp2 a0.Slots] := by rw [hW]; exact H.drew
 clear hW
 refine PR_free (by rfl) (by rfl) (by rfl) (by exact wn0 rfl) (fun wS => (x_fieldAddr fo81_0 (by rfl))) ?_
 refine PR_take (by rfl) (by rfl) (by rfl) (by exact wn0 rfl) (fun wS (H : Sep ok w wS [.blk b5 76 [.slice A1 a0.Slots.length cp2], HNB b7 a1] [RE.rd k_Slot A1 cp2 a0.Slots]) => (x_load (j := 0) (v := .int .i64 a1.Slot) sc3 (by rfl) (H.cells (i := 1) (by rfl)) (by rfl))) ?_
 refine PR_free (by rfl) (by rfl) (by rfl) (by exact wn0 rfl) (fun wS => (x_geq (by rfl) (by rfl))) ?_
 refine PR_free (by rfl) (by rfl) (by rfl) (by exact wn0 rfl) (fun wS => (x_move (v := .bool (decide (0 ≤ a1.Slot))) (by rfl))) ?_
 obtain ⟨b10, hmS, hm⟩ := bind_some hm
 refine PR_cut 7 (fun r' w' => Agr [(15, .bool b10), (2, .pointer (some ⟨b5, 0, none⟩)), (3, .pointer (some ⟨b7, 0, none⟩))] r' ∧ Sep ok w w' [.blk b5 76 [.slice A1 a0.Slots.length cp2], HNB b7 a1] [RE.rd k_Slot A1 cp2 a0.Slots]) ?_ ?_
 ·cases hbS : (decide (0 ≤ a1.Slot))
  ·have hm := cond_f hbS hmS
   refine PR_offF (by rfl) (by rfl) (by rfl) (by exact wn2 rfl rfl rfl rfl) ?_
   refine PR_off (by rfl) (by rfl) (by rfl) (by exact wn2 rfl rfl rfl rfl) ?_
   refine PR_offF (by rfl) (by rfl) (by rfl) (by exact wn2 rfl rfl rfl rfl) ?_
   refine PR_off (by rfl) (by rfl) (by rfl) (by exact wn2 rfl rfl rfl rfl) ?_
   refine PR_offF (by rfl) (by rfl) (by rfl) (by exact wn2 rfl rfl rfl rfl) ?_
   refine PR_offF (by rfl) (by rfl) (by rfl) (by exact wn2 rfl rfl rfl rfl) ?_
   refine PR_free (by rfl) (by rfl) (by rfl) (by exact wn0 rfl) (fun wS => (x_pick_f (v := .bool false) (by rfl) (by rfl))) ?_
   refine PR_nil ?_
   exact ⟨⟨congrArg Value.bool (Option.some.inj hm), rfl, rfl, trivial⟩, H⟩
  ·have hm := cond_t hbS hmS
   refine PR_free (by rfl) (by rfl) (by rfl) (by exact wn1 rfl rfl rfl rfl) (fun wS => (x_fieldAddr fo81_0 (by rfl))) ?_
   refine PR_take (by rfl) (by rfl) (by rfl) (by exact wn1 rfl rfl rfl rfl) (fun wS (H : Sep ok w wS [.blk b5 76 [.slice A1 a0.Slots.length cp2], HNB b7 a1] [RE.rd k_Slot A1 cp2 a0.Slots]) => (x_load (j := 0) (v := .int .i64 a1.Slot) sc3 (by rfl) (H.cells (i := 1) (by rfl)) (by rfl))) ?_
   refine PR_free (by rfl) (by rfl) (by rfl) (by exact wn1 rfl rfl rfl rfl) (fun wS => (x_fieldAddr fo76_0 (by rfl))) ?_
   refine PR_take (by rfl) (by rfl) (by rfl) (by exact wn1 rfl rfl rfl rfl) (fun wS (H : Sep ok w wS [.blk b5 76 [.slice A1 a0.Slots.length cp2], HNB b7 a1] [RE.rd k_Slot A1 cp2 a0.Slots]) => (x_load (j := 0) (v := .slice A1 a0.Slots.length cp2) sc74 (by rfl) (H.cells (i := 0) (by rfl)) (by rfl))) ?_
   refine PR_free (by rfl) (by rfl) (by rfl) (by exact wn1 rfl rfl rfl rfl) (fun wS => (x_len sl74 (by rfl))) ?_
   refine PR_free (by rfl) (by rfl) (by rfl) (by exact wn1 rfl rfl rfl rfl) (fun wS => (x_lss (by rfl) (by rfl))) ?_
   refine PR_free (by rfl) (by rfl) (by rfl) (by exact wn0 rfl) (fun wS => (x_pick_t (v := .bool (decide (a1.Slot < (a0.Slots.length : Int)))) (by rfl) (by rfl))) ?_
   refine PR_nil ?_
   exact ⟨⟨congrArg Value.bool (Option.some.inj hm), rfl, rfl, trivial⟩, H⟩
 ·rintro r' w' ⟨hA, H⟩
  obtain ⟨r11, rfl⟩ := regen _ hA; clear hA
  obtain ⟨w12, rfl⟩ : ∃ W : World, W = w' := ⟨_, rfl⟩
  show PR _ _ _ _ _ _ _ _
  refine PR_free (by rfl) (by rfl) (by rfl) (by exact wn0 rfl) (fun wS => (x_move (v := .bool b10) (by rfl))) ?_
  obtain ⟨b13, hmS, hm⟩ := bind_some hm
  refine PR_cut 8 (fun r' w' => Agr [(24, .bool b13), (2, .pointer (some ⟨b5, 0, none⟩)), (3, .pointer (some ⟨b7, 0, none⟩))] r' ∧ Sep ok w w' [.blk b5 76 [.slice A1 a0.Slots.length cp2], HNB b7 a1] [RE.rd k_Slot A1 cp2 a0.Slots]) ?_ ?_
  ·cases hbS : b10
   ·have hm := cond_f hbS hmS
    refine PR_offF (by rfl) (by rfl) (by rfl) (by exact wn2 rfl rfl rfl rfl) ?_
    refine PR_off (by rfl) (by rfl) (by rfl) (by exact wn2 rfl rfl rfl rfl) ?_
    refine PR_offF (by rfl) (by rfl) (by rfl) (by exact wn2 rfl rfl rfl rfl) ?_
    refine PR_off (by rfl) (by rfl) (by rfl) (by exact wn2 rfl rfl rfl rfl) ?_
    refine PR_offF (by rfl) (by rfl) (by rfl) (by exact wn2 rfl rfl rfl rfl) ?_
    refine PR_offF (by rfl) (by rfl) (by rfl) (by exact wn2 rfl rfl rfl rfl) ?_
    refine PR_off (by rfl) (by rfl) (by rfl) (by exact wn2 rfl rfl rfl rfl) ?_
    refine PR_free (by rfl) (by rfl) (by rfl) (by exact wn0 rfl) (fun wS => (x_pick_f (v := .bool false) (by rfl) (by rfl))) ?_
    refine PR_nil ?_
    exact ⟨⟨congrArg Value.bool (Option.some.inj hm), rfl, rfl, trivial⟩, H⟩
   ·have hm := cond_t hbS hmS
    refine PR_free (by rfl) (by rfl) (by rfl) (by exact wn1 rfl rfl rfl rfl) (fun wS => (x_fieldAddr fo76_0 (by rfl))) ?_
    refine PR_take (by rfl) (by rfl) (by rfl) (by exact wn1 rfl rfl rfl rfl) (fun wS (H : Sep ok w wS [.blk b5 76 [.slice A1 a0.Slots.length cp2], HNB b7 a1] [RE.rd k_Slot A1 cp2 a0.Slots]) => (x_load (j := 0) (v := .slice A1 a0.Slots.length cp2) sc74 (by rfl) (H.cells (i := 0) (by rfl)) (by rfl))) ?_
    refine PR_free (by rfl) (by rfl) (by rfl) (by exact wn1 rfl rfl rfl rfl) (fun wS => (x_fieldAddr fo81_0 (by rfl))) ?_
    refine PR_take (by rfl) (by rfl) (by rfl) (by exact wn1 rfl rfl rfl rfl) (fun wS (H : Sep ok w wS [.blk b5 76 [.slice A1 a0.Slots.length cp2], HNB b7 a1] [RE.rd k_Slot A1 cp2 a0.Slots]) => (x_load (j := 0) (v := .int .i64 a1.Slot) sc3 (by rfl) (H.cells (i := 1) (by rfl)) (by rfl))) ?_
    obtain ⟨el14, h15, h16, he17, hm⟩ := idx_some hm
    obtain ⟨g19, o20, hA18⟩ := (H.rd (i := 0) (by rfl)).addr he17
    refine PR_free (by rfl) (by rfl) (by rfl) (by exact wn1 rfl rfl rfl rfl) (fun wS => (x_indexAddr sl74 sz96 (by rfl) (by rfl) hA18 h15 h16)) ?_
    refine PR_free (by rfl) (by rfl) (by rfl) (by exact wn1 rfl rfl rfl rfl) (fun wS => (x_fieldAddr fo96_1 (by rfl))) ?_
    refine PR_take (by rfl) (by rfl) (by rfl) (by exact wn1 rfl rfl rfl rfl) (fun wS (H : Sep ok w wS [.blk b5 76 [.slice A1 a0.Slots.length cp2], HNB b7 a1] [RE.rd k_Slot A1 cp2 a0.Slots]) => (x_load (j := 1) (v := .bool el14.Live) sc4 (by rfl) (Rd.flatAt (n := 2) (H.rd (i := 0) (by rfl)) hA18 he17) (by rfl))) ?_
    refine PR_free (by rfl) (by rfl) (by rfl) (by exact wn0 rfl) (fun wS => (x_pick_t (v := .bool el14.Live) (by rfl) (by rfl))) ?_
    refine PR_nil ?_
    exact ⟨⟨congrArg Value.bool (Option.some.inj hm), rfl, rfl, trivial⟩, H⟩
  ·rintro r' w' ⟨hA, H⟩
   obtain ⟨r21, rfl⟩ := regen _ hA; clear hA
   obtain ⟨w22, rfl⟩ : ∃ W : World, W = w' := ⟨_, rfl⟩
   show PR _ _ _ _ _ _ _ _
   refine PR_free (by rfl) (by rfl) (by rfl) (by exact wn0 rfl) (fun wS => (x_move (v := .bool b13) (by rfl))) ?_
   obtain ⟨b23, hmS, hm⟩ := bind_some hm
   refine PR_cut 11 (fun r' w' => Agr [(36, .bool b23)] r' ∧ Sep ok w w' [.blk b5 76 [.slice A1 a0.Slots.length cp2], HNB b7 a1] [RE.rd k_Slot A1 cp2 a0.Slots]) ?_ ?_
   ·cases hbS : b13
    ·have hm := cond_f hbS hmS
     refine PR_offF (by rfl) (by rfl) (by rfl) (by exact wn2 rfl rfl rfl rfl) ?_
     refine PR_off (by rfl) (by rfl) (by rfl) (by exact wn2 rfl rfl rfl rfl) ?_
     refine PR_offF (by rfl) (by rfl) (by rfl) (by exact wn2 rfl rfl rfl rfl) ?_
     refine PR_off (by rfl) (by rfl) (by rfl) (by exact wn2 rfl rfl rfl rfl) ?_
     refine PR_offF (by rfl) (by rfl) (by rfl) (by exact wn2 rfl rfl rfl rfl) ?_
     refine PR_offF (by rfl) (by rfl) (by rfl) (by exact wn2 rfl rfl rfl rfl) ?_
     refine PR_off (by rfl) (by rfl) (by rfl) (by exact wn2 rfl rfl rfl rfl) ?_
     refine PR_offF (by rfl) (by rfl) (by rfl) (by exact wn2 rfl rfl rfl rfl) ?_
     refine PR_off (by rfl) (by rfl) (by rfl) (by exact wn2 rfl rfl rfl rfl) ?_
     refine PR_offF (by rfl) (by rfl) (by rfl) (by exact wn2 rfl rfl rfl rfl) ?_
     refine PR_free (by rfl) (by rfl) (by rfl) (by exact wn0 rfl) (fun wS => (x_pick_f (v := .bool false) (by rfl) (by rfl))) ?_
     refine PR_nil ?_
     exact ⟨⟨congrArg Value.bool (Option.some.inj hm), trivial⟩, H⟩
    ·have hm := cond_t hbS hmS
     refine PR_free (by rfl) (by rfl) (by rfl) (by exact wn1 rfl rfl rfl rfl) (fun wS => (x_fieldAddr fo76_0 (by rfl))) ?_
     refine PR_take (by rfl) (by rfl) (by rfl) (by exact wn1 rfl rfl rfl rfl) (fun wS (H : Sep ok w wS [.blk b5 76 [.slice A1 a0.Slots.length cp2], HNB b7 a1] [RE.rd k_Slot A1 cp2 a0.Slots]) => (x_load (j := 0) (v := .slice A1 a0.Slots.length cp2) sc74 (by rfl) (H.cells (i := 0) (by rfl)) (by rfl))) ?_
     refine PR_free (by rfl) (by rfl) (by rfl) (by exact wn1 rfl rfl rfl rfl) (fun wS => (x_fieldAddr fo81_0 (by rfl))) ?_
     refine PR_take (by rfl) (by rfl) (by rfl) (by exact wn1 rfl rfl rfl rfl) (fun wS (H : Sep ok w wS [.blk b5 76 [.slice A1 a0.Slots.length cp2], HNB b7 a1] [RE.rd k_Slot A1 cp2 a0.Slots]) => (x_load (j := 0) (v := .int .i64 a1.Slot) sc3 (by rfl) (H.cells (i := 1) (by rfl)) (by rfl))) ?_
     obtain ⟨el24, h25, h26, he27, hm⟩ := idx_some hm
     obtain ⟨g29, o30, hA28⟩ := (H.rd (i := 0) (by rfl)).addr he27
     refine PR_free (by rfl) (by rfl) (by rfl) (by exact wn1 rfl rfl rfl rfl) (fun wS => (x_indexAddr sl74 sz96 (by rfl) (by rfl) hA28 h25 h26)) ?_
     refine PR_free (by rfl) (by rfl) (by rfl) (by exact wn1 rfl rfl rfl rfl) (fun wS => (x_fieldAddr fo96_0 (by rfl))) ?_
     refine PR_take (by rfl) (by rfl) (by rfl) (by exact wn1 rfl rfl rfl rfl) (fun wS (H : Sep ok w wS [.blk b5 76 [.slice A1 a0.Slots.length cp2], HNB b7 a1] [RE.rd k_Slot A1 cp2 a0.Slots]) => (x_load (j := 0) (v := .int .i64 el24.Gen) sc3 (by rfl) (Rd.flatAt (n := 2) (H.rd (i := 0) (by rfl)) hA28 he27) (by rfl))) ?_
     refine PR_free (by rfl) (by rfl) (by rfl) (by exact wn1 rfl rfl rfl rfl) (fun wS => (x_fieldAddr fo81_1 (by rfl))) ?_
     refine PR_take (by rfl) (by rfl) (by rfl) (by exact wn1 rfl rfl rfl rfl) (fun wS (H : Sep ok w wS [.blk b5 76 [.slice A1 a0.Slots.length cp2], HNB b7 a1] [RE.rd k_Slot A1 cp2 a0.Slots]) => (x_load (j := 1) (v := .int .i64 a1.Gen) sc3 (by rfl) (H.cells (i := 1) (by rfl)) (by rfl))) ?_
     refine PR_free (by rfl) (by rfl) (by rfl) (by exact wn1 rfl rfl rfl rfl) (fun wS => (x_eql (by rfl) (by rfl))) ?_
     refine PR_free (by rfl) (by rfl) (by rfl) (by exact wn0 rfl) (fun wS => (x_pick_t (v := .bool (el24.Gen == a1.Gen)) (by rfl) (by rfl))) ?_
     refine PR_nil ?_
     exact ⟨⟨congrArg Value.bool (Option.some.inj hm), trivial⟩, H⟩
   ·rintro r' w' ⟨hA, H⟩
    obtain ⟨r31, rfl⟩ := regen _ hA; clear hA
    obtain ⟨w32, rfl⟩ : ∃ W : World, W = w' := ⟨_, rfl⟩
    show PR _ _ _ _ _ _ _ _
    refine PR_free (by rfl) (by rfl) (by rfl) (by exact wn0 rfl) (fun wS => (x_assign (v := .bool b23) (by rfl))) ?_
    refine PR_nil ?_
    refine W_ret ?_
    obtain rfl := Option.some.inj hm
    exact ⟨[.bool b23], (.tmp (by rfl) rfl), rfl, H.none_⟩
end Go.Proofs.YtobkigllalbkiaaV.M

/- A plain Lean function that answers as the Go function does (none: not told), and the proof that a call answers so. Written by program. -/
set_option linter.unusedVariables false
namespace Go.Proofs.YtobkigllalbkiaaV.M
open Go.RowKit Go.Proofs.YtobkigllalbkiaaV
def m129_l3b (K : Nat) (a0 : S_Graph) (l_row18_2 : (List Bool)) (y4_2 : Int) (y6_2 : Int) (rec2 : (List Bool) → Int → Int → Option (Bool)) (rec3 : Bool → Int → Option (Bool)) (y7_3 : Bool) (y8_3 : Int) : Option (Bool) :=
 (idx a0.Kids y6_2 fun el26 => (bif (decide (y8_3 < (el26.length : Int))) then (idx a0.Kids y6_2 fun el43 => (idx el43 y8_3 fun el60 => (idx l_row18_2 el60.Slot fun el67 => (bif (!el67) then (ck (y8_3 + 1) fun x74 => (rec3 false x74)) else (ck (y8_3 + 1) fun x75 => (rec3 y7_3 x75)))))) else ((bif y7_3 then (idx l_row18_2 y6_2 fun el77 => some (!el77)) else some false).bind fun b76 => (bif b76 then (idx l_row18_2 y6_2 fun el86 => (lete (l_row18_2.set ((y6_2).toNat) true) fun l95 => (ck (y4_2 + 1) fun x99 => (ck (y6_2 + 1) fun x100 => (rec2 l95 x99 x100))))) else (ck (y6_2 + 1) fun x101 => (rec2 l_row18_2 y4_2 x101))))))
def m129_l3 (K : Nat) (a0 : S_Graph) (l_row18_2 : (List Bool)) (y4_2 : Int) (y6_2 : Int) (rec2 : (List Bool) → Int → Int → Option (Bool)) : Nat → Bool → Int → Option (Bool)
 | 0 => fun _ _ => none
 | k + 1 => m129_l3b K a0 l_row18_2 y4_2 y6_2 rec2 (m129_l3 K a0 l_row18_2 y4_2 y6_2 rec2 k)
def m129_l2b (K : Nat) (a0 : S_Graph) (y5_1 : Int) (rec1 : (List Bool) → Int → Int → Option (Bool)) (rec2 : (List Bool) → Int → Int → Option (Bool)) (l_row18_2 : (List Bool)) (y4_2 : Int) (y6_2 : Int) : Option (Bool) :=
 (bif (decide (y6_2 < (a0.Kids.length : Int))) then m129_l3 K a0 l_row18_2 y4_2 y6_2 rec2 K true 0 else (ck (y5_1 + 1) fun x102 => (rec1 l_row18_2 y4_2 x102)))
def m129_l2 (K : Nat) (a0 : S_Graph) (y5_1 : Int) (rec1 : (List Bool) → Int → Int → Option (Bool)) : Nat → (List Bool) → Int → Int → Option (Bool)
 | 0 => fun _ _ _ => none
 | k + 1 => m129_l2b K a0 y5_1 rec1 (m129_l2 K a0 y5_1 rec1 k)
def m129_l1b (K : Nat) (a0 : S_Graph) (rec1 : (List Bool) → Int → Int → Option (Bool)) (l_row18_1 : (List Bool)) (y4_1 : Int) (y5_1 : Int) : Option (Bool) :=
 (bif (decide (y5_1 < (a0.Kids.length : Int))) then m129_l2 K a0 y5_1 rec1 K l_row18_1 y4_1 0 else some (y4_1 == (a0.Kids.length : Int)))
def m129_l1 (K : Nat) (a0 : S_Graph) : Nat → (List Bool) → Int → Int → Option (Bool)
 | 0 => fun _ _ _ => none
 | k + 1 => m129_l1b K a0 (m129_l1 K a0 k)
/-- diorama/dioramaref06.loose -/
def m129 (K : Nat) (a0 : S_Graph) : Option (Bool) :=
 (mks 1 (a0.Kids.length : Int) false fun l14 => m129_l1 K a0 K l14 0 0)
set_option maxRecDepth 100000 in
set_option maxHeartbeats 4000000 in
theorem c129 (ok : Okp) (K : Nat) (w : World) (a0 : S_Graph) (A1 : Option Addr) (cp2 : Nat) (A5 : Option Addr) (cp6 : Nat) (hR3 : Rd k_Slot w ok A1 cp2 a0.Arena.Slots) (hR7 : Rd (Kd.slice k_Handle) w ok A5 cp6 a0.Kids) (res : Bool) (hm : m129 K a0 = some res) :
  Calls Try.prog 129 #[.agg #[.slice A1 a0.Arena.Slots.length cp2, .slice A5 a0.Kids.length cp6]] w (fun e w' => e = .returned (tup [.bool res]) ∧ Sep ok w w' [] []) := by
 refine calls_W (args := [.agg #[.slice A1 a0.Arena.Slots.length cp2, .slice A5 a0.Kids.length cp6]]) Try.func129 rfl Try.ntmps129 Try.results129 rfl fun r hr => ?_
 obtain ⟨r1, rfl⟩ := regen (r := r) [(0, .agg #[.slice A1 a0.Arena.Slots.length cp2, .slice A5 a0.Kids.length cp6])] ⟨hr 0 _ rfl, trivial⟩
 have H : Sep ok w w [] [RDS A1 cp2 a0, RDK A5 cp6 a0] := Sep.arg (Sep.arg (Sep.start ok w) (re := RE.rd k_Slot A1 cp2 a0.Arena.Slots) rfl rfl hR3) (re := RE.rd (Kd.slice k_Handle) A5 cp6 a0.Kids) rfl rfl hR7
 unfold m129 at hm
 refine W_seq ?_
 refine W_region ?_
 refine RL_cons (O_box (by exact wn0 rfl) (by rfl) (by rfl) (by rfl) H (fun w10 b9 (H : Sep ok w w10 [GRB b9 A1 cp2 A5 cp6 a0] [RDS A1 cp2 a0, RDK A5 cp6 a0]) => ?_))
 refine RL_p (x_assign (v := .bool false) (by rfl)) ?_
 refine RL_nil ?_
 refine W_seq ?_
 refine W_region ?_
 refine RL_p (x_fieldAddr fo79_1 (by rfl)) ?_
 refine RL_p (x_load (j := 1) (v := .slice A5 a0.Kids.length cp6) sc77 (by rfl) (H.cells (i := 0) (by rfl)) (by rfl)) ?_
 refine RL_p (x_len sl77 (by rfl)) ?_
 obtain ⟨l14, h16, hl15, hb17, hm⟩ := mks_some hm
 refine RL_cons (O_makeSlice (D := kBool) (x0 := false) (by exact wn0 rfl) (by rfl) (by rfl) (by rfl) sl155 sz4 by4 ze4 (by rfl) (by intro w ok; exact rfl) h16 hl15 hb17 H (by rfl) (fun w11 b12 cs13 (H : Sep ok w w11 [GRB b9 A1 cp2 A5 cp6 a0, .row (.slice (some ⟨b12, 0, none⟩) l14.length l14.length) 4 kBool.sz l14.length cs13] [RDS A1 cp2 a0, RDK A5 cp6 a0, RE.chunks kBool cs13 l14]) => ?_))
 refine RL_p (x_assign (v := .slice (some ⟨b12, 0, none⟩) l14.length l14.length) (by rfl)) ?_
 refine RL_nil ?_
 refine W_seq ?_
 refine W_region ?_
 refine RL_p (x_assign (v := .int .i64 0) (by rfl)) ?_
 refine RL_nil ?_
 refine W_seq ?_
 refine W_seq ?_
 refine W_region ?_
 refine RL_p (x_assign (v := .int .i64 0) (by rfl)) ?_
 refine RL_nil ?_
 refine W_block ?_
 refine W_loop (fun k1 r' w' => ∃ (l_row18_1 : (List Bool)), ∃ (y4_1 : Int), ∃ (y5_1 : Int), ∃ (A_row18_1 : Option Addr), ∃ (c_row18_1 : Nat), ∃ (cs_row18_1 : List Value), m129_l1 K a0 k1 l_row18_1 y4_1 y5_1 = some res ∧ Agr [(1, .pointer (some ⟨b9, 0, none⟩)), (3, .slice A_row18_1 l_row18_1.length c_row18_1), (4, .int .i64 y4_1), (5, .int .i64 y5_1)] r' ∧ Sep ok w w' [GRB b9 A1 cp2 A5 cp6 a0, .row (.slice A_row18_1 l_row18_1.length c_row18_1) 4 kBool.sz l_row18_1.length cs_row18_1] [RDS A1 cp2 a0, RDK A5 cp6 a0, RE.chunks kBool cs_row18_1 l_row18_1]) K ?_ ?_
 ·exact ⟨l14, 0, 0, (some ⟨b12, 0, none⟩), l14.length, cs13, hm, ⟨rfl, rfl, rfl, rfl, trivial⟩, H⟩
 ·rintro k1 r' w' ⟨l_row18_1, y4_1, y5_1, A_row18_1, c_row18_1, cs_row18_1, hm, hA, H⟩
  obtain ⟨r20, rfl⟩ := regen _ hA; clear hA
  obtain ⟨w21, rfl⟩ : ∃ W : World, W = w' := ⟨_, rfl⟩
  cases k1 with
  | zero => exact (none_some hm).elim
  | succ k1 =>
   have hm : m129_l1b K a0 (m129_l1 K a0 k1) l_row18_1 y4_1 y5_1 = some res := hm
   unfold m129_l1b at hm
   obtain ⟨rec1, hrec1⟩ : ∃ f, m129_l1 K a0 k1 = f := ⟨_, rfl⟩
   rw [hrec1] at hm
   refine W_seq ?_
   refine W_seq ?_
   refine W_region ?_
   refine RL_p (x_move (v := .int .i64 y5_1) (by rfl)) ?_
   refine RL_p (x_fieldAddr fo79_1 (by rfl)) ?_
   refine RL_p (x_load (j := 1) (v := .slice A5 a0.Kids.length cp6) sc77 (by rfl) (H.cells (i := 0) (by rfl)) (by rfl)) ?_
   refine RL_p (x_len sl77 (by rfl)) ?_
   refine RL_p (x_lss (by rfl) (by rfl)) ?_
   refine RL_nil ?_
   refine W_cond (by rfl) (fun hb => ?_) (fun hb => ?_)
   ·have hm := cond_t hb hm
    refine W_skip ?_
    refine W_seq ?_
    refine W_block ?_
    refine W_seq ?_
    refine W_region ?_
    refine RL_p (x_assign (v := .int .i64 0) (by rfl)) ?_
    refine RL_nil ?_
    refine W_block ?_
    refine W_loop (fun k2 r' w' => ∃ (l_row18_2 : (List Bool)), ∃ (y4_2 : Int), ∃ (y6_2 : Int), ∃ (A_row18_2 : Option Addr), ∃ (c_row18_2 : Nat), ∃ (cs_row18_2 : List Value), m129_l2 K a0 y5_1 rec1 k2 l_row18_2 y4_2 y6_2 = some res ∧ Agr [(1, .pointer (some ⟨b9, 0, none⟩)), (3, .slice A_row18_2 l_row18_2.length c_row18_2), (4, .int .i64 y4_2), (5, .int .i64 y5_1), (6, .int .i64 y6_2)] r' ∧ Sep ok w w' [GRB b9 A1 cp2 A5 cp6 a0, .row (.slice A_row18_2 l_row18_2.length c_row18_2) 4 kBool.sz l_row18_2.length cs_row18_2] [RDS A1 cp2 a0, RDK A5 cp6 a0, RE.chunks kBool cs_row18_2 l_row18_2]) K ?_ ?_
    ·exact ⟨l_row18_1, y4_1, 0, A_row18_1, c_row18_1, cs_row18_1, hm, ⟨rfl, rfl, rfl, rfl, rfl, trivial⟩, H⟩
    ·rintro k2 r' w' ⟨l_row18_2, y4_2, y6_2, A_row18_2, c_row18_2, cs_row18_2, hm, hA, H⟩
     obtain ⟨r22, rfl⟩ := regen _ hA; clear hA
     obtain ⟨w23, rfl⟩ : ∃ W : World, W = w' := ⟨_, rfl⟩
     cases k2 with
     | zero => exact (none_some hm).elim
     | succ k2 =>
      have hm : m129_l2b K a0 y5_1 rec1 (m129_l2 K a0 y5_1 rec1 k2) l_row18_2 y4_2 y6_2 = some res := hm
      unfold m129_l2b at hm
      obtain ⟨rec2, hrec2⟩ : ∃ f, m129_l2 K a0 y5_1 rec1 k2 = f := ⟨_, rfl⟩
      rw [hrec2] at hm
      refine W_seq ?_
      refine W_seq ?_
      refine W_region ?_
      refine RL_p (x_move (v := .int .i64 y6_2) (by rfl)) ?_
      refine RL_p (x_fieldAddr fo79_1 (by rfl)) ?_
      refine RL_p (x_load (j := 1) (v := .slice A5 a0.Kids.length cp6) sc77 (by rfl) (H.cells (i := 0) (by rfl)) (by rfl)) ?_
      refine RL_p (x_len sl77 (by rfl)) ?_
      refine RL_p (x_lss (by rfl) (by rfl)) ?_
      refine RL_nil ?_
      refine W_cond (by rfl) (fun hb => ?_) (fun hb => ?_)
      ·have hm := cond_t hb hm
       refine W_skip ?_
       refine W_seq ?_
       refine W_block ?_
       refine W_seq ?_
       refine W_region ?_
       refine RL_p (x_assign (v := .bool true) (by rfl)) ?_
       refine RL_nil ?_
       refine W_seq ?_
       refine W_seq ?_
       refine W_region ?_
       refine RL_p (x_assign (v := .int .i64 0) (by rfl)) ?_
       refine RL_nil ?_
       refine W_block ?_
       refine W_loop (fun k3 r' w' => ∃ (y7_3 : Bool), ∃ (y8_3 : Int), ∃ (A_row18_2 : Option Addr), ∃ (c_row18_2 : Nat), ∃ (cs_row18_2 : List Value), m129_l3 K a0 l_row18_2 y4_2 y6_2 rec2 k3 y7_3 y8_3 = some res ∧ Agr [(1, .pointer (some ⟨b9, 0, none⟩)), (3, .slice A_row18_2 l_row18_2.length c_row18_2), (4, .int .i64 y4_2), (5, .int .i64 y5_1), (6, .int .i64 y6_2), (7, .bool y7_3), (8, .int .i64 y8_3)] r' ∧ Sep ok w w' [GRB b9 A1 cp2 A5 cp6 a0, .row (.slice A_row18_2 l_row18_2.length c_row18_2) 4 kBool.sz l_row18_2.length cs_row18_2] [RDS A1 cp2 a0, RDK A5 cp6 a0, RE.chunks kBool cs_row18_2 l_row18_2]) K ?_ ?_
       ·exact ⟨true, 0, A_row18_2, c_row18_2, cs_row18_2, hm, ⟨rfl, rfl, rfl, rfl, rfl, rfl, rfl, trivial⟩, H⟩
       ·rintro k3 r' w' ⟨y7_3, y8_3, A_row18_2, c_row18_2, cs_row18_2, hm, hA, H⟩
        obtain ⟨r24, rfl⟩ := regen _ hA; clear hA
        obtain ⟨w25, rfl⟩ : ∃ W : World, W = w' := ⟨_, rfl⟩
        cases k3 with
        | zero => exact (none_some hm).elim
        | succ k3 =>
         have hm : m129_l3b K a0 l_row18_2 y4_2 y6_2 rec2 (m129_l3 K a0 l_row18_2 y4_2 y6_2 rec2 k3) y7_3 y8_3 = some res := hm
         unfold m129_l3b at hm
         obtain ⟨rec3, hrec3⟩ : ∃ f, m129_l3 K a0 l_row18_2 y4_2 y6_2 rec2 k3 = f := ⟨_, rfl⟩
         rw [hrec3] at hm
         refine W_seq ?_
         refine W_seq ?_
         refine W_region ?_
         refine RL_p (x_move (v := .int .i64 y8_3) (by rfl)) ?_
         refine RL_p (x_fieldAddr fo79_1 (by rfl)) ?_
         refine RL_p (x_load (j := 1) (v := .slice A5 a0.Kids.length cp6) sc77 (by rfl) (H.cells (i := 0) (by rfl)) (by rfl)) ?_
         refine RL_p (x_move (v := .int .i64 y6_2) (by rfl)) ?_
         obtain ⟨el26, h27, h28, he29, hm⟩ := idx_some hm
         obtain ⟨g31, o32, hA30⟩ := (H.rd (i := 1) (by rfl)).addr he29
         obtain ⟨cs33, hk34, hat35, hg_cs33⟩ := (H.rd (i := 1) (by rfl)).openAt hA30 he29
         obtain ⟨A38, cp39, rfl, hR41⟩ := hk34
         have H : Sep ok w w25 [GRB b9 A1 cp2 A5 cp6 a0, .row (.slice A_row18_2 l_row18_2.length c_row18_2) 4 kBool.sz l_row18_2.length cs_row18_2] [RDS A1 cp2 a0, RDK A5 cp6 a0, RE.chunks kBool cs_row18_2 l_row18_2, RE.cells g31 (o32 + (y6_2).toNat * 1) [.slice A38 el26.length cp39]] := Sep.also H (re := RE.cells g31 (o32 + (y6_2).toNat * 1) [.slice A38 el26.length cp39]) ⟨hg_cs33, hat35⟩
         have H : Sep ok w w25 [GRB b9 A1 cp2 A5 cp6 a0, .row (.slice A_row18_2 l_row18_2.length c_row18_2) 4 kBool.sz l_row18_2.length cs_row18_2] [RDS A1 cp2 a0, RDK A5 cp6 a0, RE.chunks kBool cs_row18_2 l_row18_2, RE.cells g31 (o32 + (y6_2).toNat * 1) [.slice A38 el26.length cp39], RE.rd k_Handle A38 cp39 el26] := Sep.also H (re := RE.rd k_Handle A38 cp39 el26) hR41
         refine RL_p (x_indexAddr sl77 sz87 (by rfl) (by rfl) hA30 h27 h28) ?_
         refine RL_p (x_load (j := 0) (v := .slice A38 el26.length cp39) sc87 (by rfl) (H.cellsR (i := 3) (by rfl)) (by rfl)) ?_
         refine RL_p (x_len sl87 (by rfl)) ?_
         refine RL_p (x_lss (by rfl) (by rfl)) ?_
         refine RL_nil ?_
         refine W_cond (by rfl) (fun hb => ?_) (fun hb => ?_)
         ·have hm := cond_t hb hm
          refine W_skip ?_
          refine W_seq ?_
          refine W_block ?_
          refine W_seq ?_
          refine W_region ?_
          refine RL_p (x_move (v := .slice A_row18_2 l_row18_2.length c_row18_2) (by rfl)) ?_
          refine RL_p (x_fieldAddr fo79_1 (by rfl)) ?_
          refine RL_p (x_load (j := 1) (v := .slice A5 a0.Kids.length cp6) sc77 (by rfl) (H.cells (i := 0) (by rfl)) (by rfl)) ?_
          refine RL_p (x_move (v := .int .i64 y6_2) (by rfl)) ?_
          obtain ⟨el43, h44, h45, he46, hm⟩ := idx_some hm
          obtain ⟨g48, o49, hA47⟩ := (H.rd (i := 1) (by rfl)).addr he46
          obtain ⟨cs50, hk51, hat52, hg_cs50⟩ := (H.rd (i := 1) (by rfl)).openAt hA47 he46
          obtain ⟨A55, cp56, rfl, hR58⟩ := hk51
          have H : Sep ok w w25 [GRB b9 A1 cp2 A5 cp6 a0, .row (.slice A_row18_2 l_row18_2.length c_row18_2) 4 kBool.sz l_row18_2.length cs_row18_2] [RDS A1 cp2 a0, RDK A5 cp6 a0, RE.chunks kBool cs_row18_2 l_row18_2, RE.cells g31 (o32 + (y6_2).toNat * 1) [.slice A38 el26.length cp39], RE.rd k_Handle A38 cp39 el26, RE.cells g48 (o49 + (y6_2).toNat * 1) [.slice A55 el43.length cp56]] := Sep.also H (re := RE.cells g48 (o49 + (y6_2).toNat * 1) [.slice A55 el43.length cp56]) ⟨hg_cs50, hat52⟩
          have H : Sep ok w w25 [GRB b9 A1 cp2 A5 cp6 a0, .row (.slice A_row18_2 l_row18_2.length c_row18_2) 4 kBool.sz l_row18_2.length cs_row18_2] [RDS A1 cp2 a0, RDK A5 cp6 a0, RE.chunks kBool cs_row18_2 l_row18_2, RE.cells g31 (o32 + (y6_2).toNat * 1) [.slice A38 el26.length cp39], RE.rd k_Handle A38 cp39 el26, RE.cells g48 (o49 + (y6_2).toNat * 1) [.slice A55 el43.length cp56], RE.rd k_Handle A55 cp56 el43] := Sep.also H (re := RE.rd k_Handle A55 cp56 el43) hR58
          refine RL_p (x_indexAddr sl77 sz87 (by rfl) (by rfl) hA47 h44 h45) ?_
          refine RL_p (x_load (j := 0) (v := .slice A55 el43.length cp56) sc87 (by rfl) (H.cellsR (i := 5) (by rfl)) (by rfl)) ?_
          refine RL_p (x_move (v := .int .i64 y8_3) (by rfl)) ?_
          obtain ⟨el60, h61, h62, he63, hm⟩ := idx_some hm
          obtain ⟨g65, o66, hA64⟩ := (H.rd (i := 6) (by rfl)).addr he63
          refine RL_p (x_indexAddr sl87 sz81 (by rfl) (by rfl) hA64 h61 h62) ?_
          refine RL_p (x_fieldAddr fo81_0 (by rfl)) ?_
          refine RL_p (x_load (j := 0) (v := .int .i64 el60.Slot) sc3 (by rfl) (Rd.flatAt (n := 2) (H.rd (i := 6) (by rfl)) hA64 he63) (by rfl)) ?_
          obtain ⟨el67, h68, h69, he70, hm⟩ := idx_some hm
          obtain ⟨g72, _, hA71, _, _⟩ := H.rowIdx (i := 1) (j := 2) (by rfl) (by rfl) he70
          refine RL_p (x_indexAddr sl155 sz4 (by rfl) (by rfl) hA71 h68 h69) ?_
          refine RL_p (x_load (j := 0) (v := .bool el67) sc4 (by rfl) (H.rowFlatAt (n := 1) (i := 1) (j := 2) (by rfl) (by rfl) hA71 he70) (by rfl)) ?_
          refine RL_p (x_not (by rfl)) ?_
          refine RL_nil ?_
          refine W_cond (by rfl) (fun hb => ?_) (fun hb => ?_)
          ·have hm := cond_t hb hm
           refine W_region ?_
           refine RL_p (x_assign (v := .bool false) (by rfl)) ?_
           refine RL_nil ?_
           refine W_region ?_
           refine RL_p (x_move (v := .int .i64 y8_3) (by rfl)) ?_
           obtain ⟨x74, ex74, qx74, ux74, hm⟩ := ck_some hm
           refine RL_p (x_add (by rfl) (by rfl) ux74) ?_
           refine RL_p (x_assign (v := .int .i64 x74) (by rfl)) ?_
           refine RL_nil ?_
           subst hrec3
           exact ⟨k3, Nat.lt_succ_self k3, false, x74, A_row18_2, c_row18_2, cs_row18_2, hm, ⟨rfl, rfl, rfl, rfl, rfl, rfl, rfl, trivial⟩, (H).pick [0, 1, 2]⟩
          ·have hm := cond_f hb hm
           refine W_skip ?_
           refine W_region ?_
           refine RL_p (x_move (v := .int .i64 y8_3) (by rfl)) ?_
           obtain ⟨x75, ex75, qx75, ux75, hm⟩ := ck_some hm
           refine RL_p (x_add (by rfl) (by rfl) ux75) ?_
           refine RL_p (x_assign (v := .int .i64 x75) (by rfl)) ?_
           refine RL_nil ?_
           subst hrec3
           exact ⟨k3, Nat.lt_succ_self k3, y7_3, x75, A_row18_2, c_row18_2, cs_row18_2, hm, ⟨rfl, rfl, rfl, rfl, rfl, rfl, rfl, trivial⟩, (H).pick [0, 1, 2]⟩
         ·have hm := cond_f hb hm
          refine W_exit ?_
          refine W_seq ?_
          refine W_region ?_
          refine RL_p (x_move (v := .bool y7_3) (by rfl)) ?_
          refine RL_p (x_move (v := .bool y7_3) (by rfl)) ?_
          obtain ⟨b76, hmS, hm⟩ := bind_some hm
          refine RL_cut 6 (fun r' w' => Agr [(57, .bool b76), (1, .pointer (some ⟨b9, 0, none⟩)), (3, .slice A_row18_2 l_row18_2.length c_row18_2), (4, .int .i64 y4_2), (5, .int .i64 y5_1), (6, .int .i64 y6_2)] r' ∧ Sep ok w w' [GRB b9 A1 cp2 A5 cp6 a0, .row (.slice A_row18_2 l_row18_2.length c_row18_2) 4 kBool.sz l_row18_2.length cs_row18_2] [RDS A1 cp2 a0, RDK A5 cp6 a0, RE.chunks kBool cs_row18_2 l_row18_2, RE.cells g31 (o32 + (y6_2).toNat * 1) [.slice A38 el26.length cp39], RE.rd k_Handle A38 cp39 el26]) ?_ ?_
          ·cases hbS : y7_3
           ·have hm := cond_f hbS hmS
            refine RL_cons (OpR_off (by exact wn2 rfl rfl rfl rfl) (by rfl) (by rfl) ?_)
            refine RL_cons (OpR_off (by exact wn2 rfl rfl rfl rfl) (by rfl) (by rfl) ?_)
            refine RL_cons (OpR_off (by exact wn2 rfl rfl rfl rfl) (by rfl) (by rfl) ?_)
            refine RL_cons (OpR_off (by exact wn2 rfl rfl rfl rfl) (by rfl) (by rfl) ?_)
            refine RL_cons (OpR_off (by exact wn2 rfl rfl rfl rfl) (by rfl) (by rfl) ?_)
            refine RL_p (x_pick_f (v := .bool false) (by rfl) (by rfl)) ?_
            refine RL_nil ?_
            exact ⟨⟨congrArg Value.bool (Option.some.inj hm), rfl, rfl, rfl, rfl, rfl, trivial⟩, H⟩
           ·have hm := cond_t hbS hmS
            refine RL_pure (by exact wn1 rfl rfl rfl rfl) (by rfl) (by rfl) (x_move (v := .slice A_row18_2 l_row18_2.length c_row18_2) (by rfl)) ?_
            refine RL_pure (by exact wn1 rfl rfl rfl rfl) (by rfl) (by rfl) (x_move (v := .int .i64 y6_2) (by rfl)) ?_
            obtain ⟨el77, h78, h79, he80, hm⟩ := idx_some hm
            obtain ⟨g82, _, hA81, _, _⟩ := H.rowIdx (i := 1) (j := 2) (by rfl) (by rfl) he80
            refine RL_pure (by exact wn1 rfl rfl rfl rfl) (by rfl) (by rfl) (x_indexAddr sl155 sz4 (by rfl) (by rfl) hA81 h78 h79) ?_
            refine RL_pure (by exact wn1 rfl rfl rfl rfl) (by rfl) (by rfl) (x_load (j := 0) (v := .bool el77) sc4 (by rfl) (H.rowFlatAt (n := 1) (i := 1) (j := 2) (by rfl) (by rfl) hA81 he80) (by rfl)) ?_
            refine RL_pure (by exact wn1 rfl rfl rfl rfl) (by rfl) (by rfl) (x_not (by rfl)) ?_
            refine RL_p (x_pick_t (v := .bool (!el77)) (by rfl) (by rfl)) ?_
            refine RL_nil ?_
            exact ⟨⟨congrArg Value.bool (Option.some.inj hm), rfl, rfl, rfl, rfl, rfl, trivial⟩, H⟩
          ·rintro r' w' ⟨hA, H⟩
           obtain ⟨r84, rfl⟩ := regen _ hA; clear hA
           obtain ⟨w85, rfl⟩ : ∃ W : World, W = w' := ⟨_, rfl⟩
           show RL _ _ _ _ _ _ _
           refine RL_nil ?_
           refine W_cond (by rfl) (fun hb => ?_) (fun hb => ?_)
           ·have hm := cond_t hb hm
            refine W_seq ?_
            refine W_region ?_
            refine RL_p (x_move (v := .slice A_row18_2 l_row18_2.length c_row18_2) (by rfl)) ?_
            refine RL_p (x_move (v := .int .i64 y6_2) (by rfl)) ?_
            obtain ⟨el86, h87, h88, he89, hm⟩ := idx_some hm
            obtain ⟨g91, _, hA90, _, _⟩ := H.rowIdx (i := 1) (j := 2) (by rfl) (by rfl) he89
            refine RL_p (x_indexAddr sl155 sz4 (by rfl) (by rfl) hA90 h87 h88) ?_
            obtain ⟨l95, hl96, hm⟩ := lete_some hm
            refine RL_cons (O_storeRow (D := kBool) (i := 1) (j := 2) (off := 0) (m := y6_2) (a := el86) (b := true) (vs := [.bool true]) (by exact wn0 rfl) H (by rfl) (by rfl) hA90 (by rfl) (by rfl) he89 (by rfl) sz4 (by rfl) (by rfl) (by intro ce hce; obtain rfl := hce; rfl) hl96 (fun w93 cs94 (H : Sep ok w w93 [GRB b9 A1 cp2 A5 cp6 a0, .row (.slice A_row18_2 l95.length c_row18_2) 4 kBool.sz l95.length cs94] [RDS A1 cp2 a0, RDK A5 cp6 a0, RE.chunks kBool cs94 l95, RE.cells g31 (o32 + (y6_2).toNat * 1) [.slice A38 el26.length cp39], RE.rd k_Handle A38 cp39 el26]) => ?_))
            refine RL_nil ?_
            have hn97 : l_row18_2.length = l95.length := by rw [← hl96]; exact (List.length_set ..).symm
            have H : Sep ok w w93 [GRB b9 A1 cp2 A5 cp6 a0, .row (.slice A_row18_2 l95.length c_row18_2) 4 kBool.sz l95.length cs94] [RDS A1 cp2 a0, RDK A5 cp6 a0, RE.chunks kBool cs94 l95, RE.cells g31 (o32 + (y6_2).toNat * 1) [.slice A38 el26.length cp39], RE.rd k_Handle A38 cp39 el26] := by (try rw [hn97] at H); exact H
            refine W_regen (l := [(1, .pointer (some ⟨b9, 0, none⟩)), (3, .slice A_row18_2 l95.length c_row18_2), (4, .int .i64 y4_2), (5, .int .i64 y5_1), (6, .int .i64 y6_2)]) ⟨rfl, (by (try rw [← hn97]); rfl), rfl, rfl, rfl, trivial⟩ fun r98 => ?_
            refine W_region ?_
            refine RL_p (x_move (v := .int .i64 y4_2) (by rfl)) ?_
            obtain ⟨x99, ex99, qx99, ux99, hm⟩ := ck_some hm
            refine RL_p (x_add (by rfl) (by rfl) ux99) ?_
            refine RL_p (x_assign (v := .int .i64 x99) (by rfl)) ?_
            refine RL_nil ?_
            refine W_region ?_
            refine RL_p (x_move (v := .int .i64 y6_2) (by rfl)) ?_
            obtain ⟨x100, ex100, qx100, ux100, hm⟩ := ck_some hm
            refine RL_p (x_add (by rfl) (by rfl) ux100) ?_
            refine RL_p (x_assign (v := .int .i64 x100) (by rfl)) ?_
            refine RL_nil ?_
            subst hrec2
            exact ⟨k2, Nat.lt_succ_self k2, l95, x99, x100, A_row18_2, c_row18_2, cs94, hm, ⟨rfl, rfl, rfl, rfl, rfl, trivial⟩, (H).pick [0, 1, 2]⟩
           ·have hm := cond_f hb hm
            refine W_skip ?_
            refine W_region ?_
            refine RL_p (x_move (v := .int .i64 y6_2) (by rfl)) ?_
            obtain ⟨x101, ex101, qx101, ux101, hm⟩ := ck_some hm
            refine RL_p (x_add (by rfl) (by rfl) ux101) ?_
            refine RL_p (x_assign (v := .int .i64 x101) (by rfl)) ?_
            refine RL_nil ?_
            subst hrec2
            exact ⟨k2, Nat.lt_succ_self k2, l_row18_2, y4_2, x101, A_row18_2, c_row18_2, cs_row18_2, hm, ⟨rfl, rfl, rfl, rfl, rfl, trivial⟩, (H).pick [0, 1, 2]⟩
      ·have hm := cond_f hb hm
       refine W_exit ?_
       refine W_region ?_
       refine RL_p (x_move (v := .int .i64 y5_1) (by rfl)) ?_
       obtain ⟨x102, ex102, qx102, ux102, hm⟩ := ck_some hm
       refine RL_p (x_add (by rfl) (by rfl) ux102) ?_
       refine RL_p (x_assign (v := .int .i64 x102) (by rfl)) ?_
       refine RL_nil ?_
       subst hrec1
       exact ⟨k1, Nat.lt_succ_self k1, l_row18_2, y4_2, x102, A_row18_2, c_row18_2, cs_row18_2, hm, ⟨rfl, rfl, rfl, rfl, trivial⟩, H⟩
   ·have hm := cond_f hb hm
    refine W_exit ?_
    refine W_seq ?_
    refine W_region ?_
    refine RL_p (x_move (v := .int .i64 y4_1) (by rfl)) ?_
    refine RL_p (x_fieldAddr fo79_1 (by rfl)) ?_
    refine RL_p (x_load (j := 1) (v := .slice A5 a0.Kids.length cp6) sc77 (by rfl) (H.cells (i := 0) (by rfl)) (by rfl)) ?_
    refine RL_p (x_len sl77 (by rfl)) ?_
    refine RL_p (x_eql (by rfl) (by rfl)) ?_
    refine RL_p (x_assign (v := .bool (y4_1 == (a0.Kids.length : Int))) (by rfl)) ?_
    refine RL_nil ?_
    refine W_ret ?_
    obtain rfl := Option.some.inj hm
    exact ⟨[.bool (y4_1 == (a0.Kids.length : Int))], (.tmp (by rfl) rfl), rfl, H.none_⟩
end Go.Proofs.YtobkigllalbkiaaV.M
