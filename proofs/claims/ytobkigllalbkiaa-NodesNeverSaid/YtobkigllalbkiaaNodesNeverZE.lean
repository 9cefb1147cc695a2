/- Part 5 of the texts that the proof of NodesNever stands on. -/
import Derived.Test.YtobkigllalbkiaaNodesNeverZD
/- A plain Lean function that answers as the Go function does (none: not told), and the proof that a call answers so. Written by program. -/
set_option linter.unusedVariables false
namespace Go.Proofs.YtobkigllalbkiaaV.M
open Go.RowKit Go.Proofs.YtobkigllalbkiaaV
/-- diorama/dioramalaw06.three -/
def m37 (K : Nat)  : Option (S_Graph × (Ar3 S_Handle) × Bool) :=
 ((m45 K (⟨(⟨[]⟩ : S_Arena), []⟩ : S_Graph)).bind fun v10 => ((m45 K v10.1).bind fun v27 => ((bif (v10.2.2 == 0) then some (v27.2.2 == 0) else some false).bind fun b41 => ((m45 K v27.1).bind fun v47 => ((bif b41 then some (v47.2.2 == 0) else some false).bind fun b61 => ((m38 K v47.1 v10.2.1 v27.2.1 0).bind fun v67 => ((m38 K v67.1 v10.2.1 v27.2.1 1).bind fun v79 => ((m38 K v79.1 v27.2.1 v47.2.1 0).bind fun v91 => ((bif b61 then some (v67.2 == 0) else some false).bind fun b103 => ((bif b103 then some (v79.2 == 0) else some false).bind fun b106 => ((bif b106 then some (v91.2 == 0) else some false).bind fun b109 => some (v91.1, (⟨v10.2.1, v27.2.1, v47.2.1⟩ : (Ar3 S_Handle)), b109))))))))))))
set_option maxRecDepth 100000 in
set_option maxHeartbeats 4000000 in
theorem c37 (ok : Okp) (K : Nat) (w : World)  (res : S_Graph × (Ar3 S_Handle) × Bool) (hm : m37 K  = some res) :
  Calls Try.prog 37 #[] w (fun e w' => ∃ (A0_ : Option Addr) (c0_ : Nat), ∃ (A1_ : Option Addr) (c1_ : Nat), e = .returned (tup [.agg #[.slice A0_ res.1.Arena.Slots.length c0_, .slice A1_ res.1.Kids.length c1_], .agg #[.int .i64 res.2.1.a0.Slot, .int .i64 res.2.1.a0.Gen, .int .i64 res.2.1.a1.Slot, .int .i64 res.2.1.a1.Gen, .int .i64 res.2.1.a2.Slot, .int .i64 res.2.1.a2.Gen], .bool res.2.2]) ∧ Sep ok w w' [] [RE.rd k_Slot A0_ c0_ res.1.Arena.Slots, RE.rd (Kd.slice k_Handle) A1_ c1_ res.1.Kids]) := by
 refine calls_W (args := []) Try.func37 rfl Try.ntmps37 Try.results37 rfl fun r hr => ?_
 obtain ⟨r1, rfl⟩ : ∃ R, R = r := ⟨_, rfl⟩
 have H : Sep ok w w [] [] := Sep.start ok w
 unfold m37 at hm
 refine W_seq ?_
 refine W_region ?_
 refine RL_cons (O_alloc (by exact wn0 rfl) (by rfl) ze79 (by rfl) H (fun w2 b1 (H : Sep ok w w2 [.blk b1 79 [.slice none 0 0, .slice none 0 0]] []) => ?_))
 refine RL_cons (O_alloc (by exact wn0 rfl) (by rfl) ze82 (by rfl) H (fun w4 b3 (H : Sep ok w w4 [.blk b1 79 [.slice none 0 0, .slice none 0 0], .blk b3 82 [.int .i64 0, .int .i64 0, .int .i64 0, .int .i64 0, .int .i64 0, .int .i64 0]] []) => ?_))
 refine RL_pure (by exact wn0 rfl) (by rfl) (by rfl) (x_assign (v := .bool false) (by rfl)) ?_
 refine RL_nil ?_
 refine W_seq ?_
 refine W_region ?_
 refine RL_cons (O_alloc (by exact wn0 rfl) (by rfl) ze79 (by rfl) H (fun w6 b5 (H : Sep ok w w6 [.blk b1 79 [.slice none 0 0, .slice none 0 0], .blk b3 82 [.int .i64 0, .int .i64 0, .int .i64 0, .int .i64 0, .int .i64 0, .int .i64 0], .blk b5 79 [.slice none 0 0, .slice none 0 0]] []) => ?_))
 refine RL_nil ?_
 refine W_seq ?_
 refine W_region ?_
 refine RL_cons (O_alloc (by exact wn0 rfl) (by rfl) ze82 (by rfl) H (fun w8 b7 (H : Sep ok w w8 [.blk b1 79 [.slice none 0 0, .slice none 0 0], .blk b3 82 [.int .i64 0, .int .i64 0, .int .i64 0, .int .i64 0, .int .i64 0, .int .i64 0], .blk b5 79 [.slice none 0 0, .slice none 0 0], .blk b7 82 [.int .i64 0, .int .i64 0, .int .i64 0, .int .i64 0, .int .i64 0, .int .i64 0]] []) => ?_))
 refine RL_nil ?_
 refine W_seq ?_
 refine W_region ?_
 refine RL_pure (by exact wn0 rfl) (by rfl) (by rfl) (x_assign (v := .bool true) (by rfl)) ?_
 refine RL_nil ?_
 refine W_seq ?_
 refine W_seq ?_
 refine W_region ?_
 refine RL_pure (by exact wn0 rfl) (by rfl) (by rfl) (x_assign (v := .int .i64 0) (by rfl)) ?_
 refine RL_nil ?_
 refine W_block ?_
 refine W_unroll 40 ?_
 refine WU_succ ?_
 refine W_seq ?_
 refine W_seq ?_
 refine W_region ?_
 refine RL_pure (by exact wn0 rfl) (by rfl) (by rfl) (x_move (v := .int .i64 0) (by rfl)) ?_
 refine RL_pure (by exact wn0 rfl) (by rfl) (by rfl) (x_lss (by rfl) (by rfl)) ?_
 refine RL_nil ?_
 refine W_cond (t := true) (by first | rfl | decide) (fun _ => ?_) (fun hb => by cases hb)
 refine W_skip ?_
 refine W_seq ?_
 refine W_block ?_
 refine W_seq ?_
 refine W_region ?_
 refine RL_pure (by exact wn0 rfl) (by rfl) (by rfl) (x_loadA (j := 0) (vs := [.slice none 0 0, .slice none 0 0]) ag79 (by rfl) (H.cells (i := 2) (by rfl)) (by rfl) (by rfl)) ?_
 obtain ⟨v10, hv9, hm⟩ := bind_some hm
 refine RL_cons (O_call (by exact wn0 rfl) (by rfl) (by rfl) (x_callL (by rfl) (args := [.agg #[.slice none 0 0, .slice none 0 0]]) (by rfl) (cf45 _ _)) (c45 (okS ok w [.blk b1 79 [.slice none 0 0, .slice none 0 0], .blk b3 82 [.int .i64 0, .int .i64 0, .int .i64 0, .int .i64 0, .int .i64 0, .int .i64 0], .blk b5 79 [.slice none 0 0, .slice none 0 0], .blk b7 82 [.int .i64 0, .int .i64 0, .int .i64 0, .int .i64 0, .int .i64 0, .int .i64 0]]) K w8 (⟨(⟨[]⟩ : S_Arena), []⟩ : S_Graph) none 0 none 0 (Rd.nil (by decide)) (Rd.nil (by decide)) v10 hv9) ?_)
 rintro e w11 ⟨A12, cp13, A15, cp16, rfl, H2⟩
 have H : Sep ok w w11 [.blk b1 79 [.slice none 0 0, .slice none 0 0], .blk b3 82 [.int .i64 0, .int .i64 0, .int .i64 0, .int .i64 0, .int .i64 0, .int .i64 0], .blk b5 79 [.slice none 0 0, .slice none 0 0], .blk b7 82 [.int .i64 0, .int .i64 0, .int .i64 0, .int .i64 0, .int .i64 0, .int .i64 0]] [RE.rd k_Slot A12 cp13 v10.1.Arena.Slots, RE.rd (Kd.slice k_Handle) A15 cp16 v10.1.Kids] := H.call H2
 clear H2
 refine ⟨_, rfl, ?_⟩
 show RL _ _ _ _ _ _ _
 refine RL_pure (by exact wn0 rfl) (by rfl) (by rfl) (x_move (v := tup [.agg #[.slice A12 v10.1.Arena.Slots.length cp13, .slice A15 v10.1.Kids.length cp16], .agg #[.int .i64 v10.2.1.Slot, .int .i64 v10.2.1.Gen], .int .i64 v10.2.2]) (by rfl)) ?_
 refine RL_pure (by exact wn0 rfl) (by rfl) (by rfl) (x_extract (v := .agg #[.slice A12 v10.1.Arena.Slots.length cp13, .slice A15 v10.1.Kids.length cp16]) (by rfl) (by rfl)) ?_
 refine RL_pure (by exact wn0 rfl) (by rfl) (by rfl) (x_extract (v := .agg #[.int .i64 v10.2.1.Slot, .int .i64 v10.2.1.Gen]) (by rfl) (by rfl)) ?_
 refine RL_pure (by exact wn0 rfl) (by rfl) (by rfl) (x_extract (v := .int .i64 v10.2.2) (by rfl) (by rfl)) ?_
 refine RL_cons (O_alloc (by exact wn0 rfl) (by rfl) ze79 (by rfl) H (fun w19 b18 (H : Sep ok w w19 [.blk b1 79 [.slice none 0 0, .slice none 0 0], .blk b3 82 [.int .i64 0, .int .i64 0, .int .i64 0, .int .i64 0, .int .i64 0, .int .i64 0], .blk b5 79 [.slice none 0 0, .slice none 0 0], .blk b7 82 [.int .i64 0, .int .i64 0, .int .i64 0, .int .i64 0, .int .i64 0, .int .i64 0], .blk b18 79 [.slice none 0 0, .slice none 0 0]] [RE.rd k_Slot A12 cp13 v10.1.Arena.Slots, RE.rd (Kd.slice k_Handle) A15 cp16 v10.1.Kids]) => ?_))
 refine RL_cons (O_alloc (by exact wn0 rfl) (by rfl) ze81 (by rfl) H (fun w21 b20 (H : Sep ok w w21 [.blk b1 79 [.slice none 0 0, .slice none 0 0], .blk b3 82 [.int .i64 0, .int .i64 0, .int .i64 0, .int .i64 0, .int .i64 0, .int .i64 0], .blk b5 79 [.slice none 0 0, .slice none 0 0], .blk b7 82 [.int .i64 0, .int .i64 0, .int .i64 0, .int .i64 0, .int .i64 0, .int .i64 0], .blk b18 79 [.slice none 0 0, .slice none 0 0], .blk b20 81 [.int .i64 0, .int .i64 0]] [RE.rd k_Slot A12 cp13 v10.1.Arena.Slots, RE.rd (Kd.slice k_Handle) A15 cp16 v10.1.Kids]) => ?_))
 refine RL_cons (O_store (i := 4) (off := 0) (by exact wn0 rfl) (by rfl) (by rfl) H (by rfl) (vs := [.slice A12 v10.1.Arena.Slots.length cp13, .slice A15 v10.1.Kids.length cp16]) (by rfl) sz79 (by rfl) (by rfl) (by rfl) (fun w22 (H : Sep ok w w22 [.blk b1 79 [.slice none 0 0, .slice none 0 0], .blk b3 82 [.int .i64 0, .int .i64 0, .int .i64 0, .int .i64 0, .int .i64 0, .int .i64 0], .blk b5 79 [.slice none 0 0, .slice none 0 0], .blk b7 82 [.int .i64 0, .int .i64 0, .int .i64 0, .int .i64 0, .int .i64 0, .int .i64 0], .blk b18 79 [.slice A12 v10.1.Arena.Slots.length cp13, .slice A15 v10.1.Kids.length cp16], .blk b20 81 [.int .i64 0, .int .i64 0]] [RE.rd k_Slot A12 cp13 v10.1.Arena.Slots, RE.rd (Kd.slice k_Handle) A15 cp16 v10.1.Kids]) => ?_))
 refine RL_cons (O_store (i := 5) (off := 0) (by exact wn0 rfl) (by rfl) (by rfl) H (by rfl) (vs := [.int .i64 v10.2.1.Slot, .int .i64 v10.2.1.Gen]) (by rfl) sz81 (by rfl) (by rfl) (by rfl) (fun w23 (H : Sep ok w w23 [.blk b1 79 [.slice none 0 0, .slice none 0 0], .blk b3 82 [.int .i64 0, .int .i64 0, .int .i64 0, .int .i64 0, .int .i64 0, .int .i64 0], .blk b5 79 [.slice none 0 0, .slice none 0 0], .blk b7 82 [.int .i64 0, .int .i64 0, .int .i64 0, .int .i64 0, .int .i64 0, .int .i64 0], .blk b18 79 [.slice A12 v10.1.Arena.Slots.length cp13, .slice A15 v10.1.Kids.length cp16], .blk b20 81 [.int .i64 v10.2.1.Slot, .int .i64 v10.2.1.Gen]] [RE.rd k_Slot A12 cp13 v10.1.Arena.Slots, RE.rd (Kd.slice k_Handle) A15 cp16 v10.1.Kids]) => ?_))
 refine RL_pure (by exact wn0 rfl) (by rfl) (by rfl) (x_assign (v := .int .i64 v10.2.2) (by rfl)) ?_
 refine RL_nil ?_
 refine W_seq ?_
 refine W_region ?_
 refine RL_pure (by exact wn0 rfl) (by rfl) (by rfl) (x_move (v := .bool true) (by rfl)) ?_
 refine RL_pure (by exact wn0 rfl) (by rfl) (by rfl) (x_move (v := .bool true) (by rfl)) ?_
 refine RL_pure (by exact wn1 rfl rfl rfl rfl) (by rfl) (by rfl) (x_move (v := .int .i64 v10.2.2) (by rfl)) ?_
 refine RL_pure (by exact wn1 rfl rfl rfl rfl) (by rfl) (by rfl) (x_eql (by rfl) (by rfl)) ?_
 refine RL_pure (by exact wn0 rfl) (by rfl) (by rfl) (x_pick_t (v := .bool (v10.2.2 == 0)) (by rfl) (by rfl)) ?_
 refine RL_pure (by exact wn0 rfl) (by rfl) (by rfl) (x_assign (v := .bool (v10.2.2 == 0)) (by rfl)) ?_
 refine RL_nil ?_
 refine W_seq ?_
 refine W_region ?_
 refine RL_pure (by exact wn0 rfl) (by rfl) (by rfl) (x_loadA (j := 0) (vs := [.slice A12 v10.1.Arena.Slots.length cp13, .slice A15 v10.1.Kids.length cp16]) ag79 (by rfl) (H.cells (i := 4) (by rfl)) (by rfl) (by rfl)) ?_
 refine RL_cons (O_store (i := 2) (off := 0) (by exact wn0 rfl) (by rfl) (by rfl) H (by rfl) (vs := [.slice A12 v10.1.Arena.Slots.length cp13, .slice A15 v10.1.Kids.length cp16]) (by rfl) sz79 (by rfl) (by rfl) (by rfl) (fun w24 (H : Sep ok w w24 [.blk b1 79 [.slice none 0 0, .slice none 0 0], .blk b3 82 [.int .i64 0, .int .i64 0, .int .i64 0, .int .i64 0, .int .i64 0, .int .i64 0], .blk b5 79 [.slice A12 v10.1.Arena.Slots.length cp13, .slice A15 v10.1.Kids.length cp16], .blk b7 82 [.int .i64 0, .int .i64 0, .int .i64 0, .int .i64 0, .int .i64 0, .int .i64 0], .blk b18 79 [.slice A12 v10.1.Arena.Slots.length cp13, .slice A15 v10.1.Kids.length cp16], .blk b20 81 [.int .i64 v10.2.1.Slot, .int .i64 v10.2.1.Gen]] [RE.rd k_Slot A12 cp13 v10.1.Arena.Slots, RE.rd (Kd.slice k_Handle) A15 cp16 v10.1.Kids]) => ?_))
 refine RL_nil ?_
 refine W_region ?_
 refine RL_pure (by exact wn0 rfl) (by rfl) (by rfl) (x_move (v := .int .i64 0) (by rfl)) ?_
 refine RL_pure (by exact wn0 rfl) (by rfl) (by rfl) (x_loadA (j := 0) (vs := [.int .i64 v10.2.1.Slot, .int .i64 v10.2.1.Gen]) ag81 (by rfl) (H.cells (i := 5) (by rfl)) (by rfl) (by rfl)) ?_
 refine RL_pure (by exact wn0 rfl) (by rfl) (by rfl) (x_indexArr ar82 sz81 (by rfl) (by rfl) (by decide) (by decide)) ?_
 refine RL_cons (O_store (i := 3) (off := 0) (by exact wn0 rfl) (by rfl) (by rfl) H (by rfl) (vs := [.int .i64 v10.2.1.Slot, .int .i64 v10.2.1.Gen]) (by rfl) sz81 (by rfl) (by rfl) (by rfl) (fun w25 (H : Sep ok w w25 [.blk b1 79 [.slice none 0 0, .slice none 0 0], .blk b3 82 [.int .i64 0, .int .i64 0, .int .i64 0, .int .i64 0, .int .i64 0, .int .i64 0], .blk b5 79 [.slice A12 v10.1.Arena.Slots.length cp13, .slice A15 v10.1.Kids.length cp16], .blk b7 82 [.int .i64 v10.2.1.Slot, .int .i64 v10.2.1.Gen, .int .i64 0, .int .i64 0, .int .i64 0, .int .i64 0], .blk b18 79 [.slice A12 v10.1.Arena.Slots.length cp13, .slice A15 v10.1.Kids.length cp16], .blk b20 81 [.int .i64 v10.2.1.Slot, .int .i64 v10.2.1.Gen]] [RE.rd k_Slot A12 cp13 v10.1.Arena.Slots, RE.rd (Kd.slice k_Handle) A15 cp16 v10.1.Kids]) => ?_))
 refine RL_nil ?_
 refine W_region ?_
 refine RL_pure (by exact wn0 rfl) (by rfl) (by rfl) (x_move (v := .int .i64 0) (by rfl)) ?_
 refine RL_pure (by exact wn0 rfl) (by rfl) (by rfl) (x_add (c := 1) (by rfl) (by rfl) (by decide)) ?_
 refine RL_pure (by exact wn0 rfl) (by rfl) (by rfl) (x_assign (v := .int .i64 1) (by rfl)) ?_
 refine RL_nil ?_
 refine WU_succ ?_
 refine W_seq ?_
 refine W_seq ?_
 refine W_region ?_
 refine RL_pure (by exact wn0 rfl) (by rfl) (by rfl) (x_move (v := .int .i64 1) (by rfl)) ?_
 refine RL_pure (by exact wn0 rfl) (by rfl) (by rfl) (x_lss (by rfl) (by rfl)) ?_
 refine RL_nil ?_
 refine W_cond (t := true) (by first | rfl | decide) (fun _ => ?_) (fun hb => by cases hb)
 refine W_skip ?_
 refine W_seq ?_
 refine W_block ?_
 refine W_seq ?_
 refine W_region ?_
 refine RL_pure (by exact wn0 rfl) (by rfl) (by rfl) (x_loadA (j := 0) (vs := [.slice A12 v10.1.Arena.Slots.length cp13, .slice A15 v10.1.Kids.length cp16]) ag79 (by rfl) (H.cells (i := 2) (by rfl)) (by rfl) (by rfl)) ?_
 obtain ⟨v27, hv26, hm⟩ := bind_some hm
 refine RL_cons (O_call (by exact wn0 rfl) (by rfl) (by rfl) (x_callL (by rfl) (args := [.agg #[.slice A12 v10.1.Arena.Slots.length cp13, .slice A15 v10.1.Kids.length cp16]]) (by rfl) (cf45 _ _)) (c45 (okS ok w [.blk b1 79 [.slice none 0 0, .slice none 0 0], .blk b3 82 [.int .i64 0, .int .i64 0, .int .i64 0, .int .i64 0, .int .i64 0, .int .i64 0], .blk b5 79 [.slice A12 v10.1.Arena.Slots.length cp13, .slice A15 v10.1.Kids.length cp16], .blk b7 82 [.int .i64 v10.2.1.Slot, .int .i64 v10.2.1.Gen, .int .i64 0, .int .i64 0, .int .i64 0, .int .i64 0], .blk b18 79 [.slice A12 v10.1.Arena.Slots.length cp13, .slice A15 v10.1.Kids.length cp16], .blk b20 81 [.int .i64 v10.2.1.Slot, .int .i64 v10.2.1.Gen]]) K w25 v10.1 A12 cp13 A15 cp16 (H.rd (i := 0) (by rfl)) (H.rd (i := 1) (by rfl)) v27 hv26) ?_)
 rintro e w28 ⟨A29, cp30, A32, cp33, rfl, H2⟩
 have H : Sep ok w w28 [.blk b1 79 [.slice none 0 0, .slice none 0 0], .blk b3 82 [.int .i64 0, .int .i64 0, .int .i64 0, .int .i64 0, .int .i64 0, .int .i64 0], .blk b5 79 [.slice A12 v10.1.Arena.Slots.length cp13, .slice A15 v10.1.Kids.length cp16], .blk b7 82 [.int .i64 v10.2.1.Slot, .int .i64 v10.2.1.Gen, .int .i64 0, .int .i64 0, .int .i64 0, .int .i64 0], .blk b18 79 [.slice A12 v10.1.Arena.Slots.length cp13, .slice A15 v10.1.Kids.length cp16], .blk b20 81 [.int .i64 v10.2.1.Slot, .int .i64 v10.2.1.Gen]] [RE.rd k_Slot A12 cp13 v10.1.Arena.Slots, RE.rd (Kd.slice k_Handle) A15 cp16 v10.1.Kids, RE.rd k_Slot A29 cp30 v27.1.Arena.Slots, RE.rd (Kd.slice k_Handle) A32 cp33 v27.1.Kids] := H.call H2
 clear H2
 refine ⟨_, rfl, ?_⟩
 show RL _ _ _ _ _ _ _
 refine RL_pure (by exact wn0 rfl) (by rfl) (by rfl) (x_move (v := tup [.agg #[.slice A29 v27.1.Arena.Slots.length cp30, .slice A32 v27.1.Kids.length cp33], .agg #[.int .i64 v27.2.1.Slot, .int .i64 v27.2.1.Gen], .int .i64 v27.2.2]) (by rfl)) ?_
 refine RL_pure (by exact wn0 rfl) (by rfl) (by rfl) (x_extract (v := .agg #[.slice A29 v27.1.Arena.Slots.length cp30, .slice A32 v27.1.Kids.length cp33]) (by rfl) (by rfl)) ?_
 refine RL_pure (by exact wn0 rfl) (by rfl) (by rfl) (x_extract (v := .agg #[.int .i64 v27.2.1.Slot, .int .i64 v27.2.1.Gen]) (by rfl) (by rfl)) ?_
 refine RL_pure (by exact wn0 rfl) (by rfl) (by rfl) (x_extract (v := .int .i64 v27.2.2) (by rfl) (by rfl)) ?_
 refine RL_cons (O_alloc (by exact wn0 rfl) (by rfl) ze79 (by rfl) H (fun w36 b35 (H : Sep ok w w36 [.blk b1 79 [.slice none 0 0, .slice none 0 0], .blk b3 82 [.int .i64 0, .int .i64 0, .int .i64 0, .int .i64 0, .int .i64 0, .int .i64 0], .blk b5 79 [.slice A12 v10.1.Arena.Slots.length cp13, .slice A15 v10.1.Kids.length cp16], .blk b7 82 [.int .i64 v10.2.1.Slot, .int .i64 v10.2.1.Gen, .int .i64 0, .int .i64 0, .int .i64 0, .int .i64 0], .blk b18 79 [.slice A12 v10.1.Arena.Slots.length cp13, .slice A15 v10.1.Kids.length cp16], .blk b20 81 [.int .i64 v10.2.1.Slot, .int .i64 v10.2.1.Gen], .blk b35 79 [.slice none 0 0, .slice none 0 0]] [RE.rd k_Slot A12 cp13 v10.1.Arena.Slots, RE.rd (Kd.slice k_Handle) A15 cp16 v10.1.Kids, RE.rd k_Slot A29 cp30 v27.1.Arena.Slots, RE.rd (Kd.slice k_Handle) A32 cp33 v27.1.Kids]) => ?_))
 refine RL_cons (O_alloc (by exact wn0 rfl) (by rfl) ze81 (by rfl) H (fun w38 b37 (H : Sep ok w w38 [.blk b1 79 [.slice none 0 0, .slice none 0 0], .blk b3 82 [.int .i64 0, .int .i64 0, .int .i64 0, .int .i64 0, .int .i64 0, .int .i64 0], .blk b5 79 [.slice A12 v10.1.Arena.Slots.length cp13, .slice A15 v10.1.Kids.length cp16], .blk b7 82 [.int .i64 v10.2.1.Slot, .int .i64 v10.2.1.Gen, .int .i64 0, .int .i64 0, .int .i64 0, .int .i64 0], .blk b18 79 [.slice A12 v10.1.Arena.Slots.length cp13, .slice A15 v10.1.Kids.length cp16], .blk b20 81 [.int .i64 v10.2.1.Slot, .int .i64 v10.2.1.Gen], .blk b35 79 [.slice none 0 0, .slice none 0 0], .blk b37 81 [.int .i64 0, .int .i64 0]] [RE.rd k_Slot A12 cp13 v10.1.Arena.Slots, RE.rd (Kd.slice k_Handle) A15 cp16 v10.1.Kids, RE.rd k_Slot A29 cp30 v27.1.Arena.Slots, RE.rd (Kd.slice k_Handle) A32 cp33 v27.1.Kids]) => ?_))
 refine RL_cons (O_store (i := 6) (off := 0) (by exact wn0 rfl) (by rfl) (by rfl) H (by rfl) (vs := [.slice A29 v27.1.Arena.Slots.length cp30, .slice A32 v27.1.Kids.length cp33]) (by rfl) sz79 (by rfl) (by rfl) (by rfl) (fun w39 (H : Sep ok w w39 [.blk b1 79 [.slice none 0 0, .slice none 0 0], .blk b3 82 [.int .i64 0, .int .i64 0, .int .i64 0, .int .i64 0, .int .i64 0, .int .i64 0], .blk b5 79 [.slice A12 v10.1.Arena.Slots.length cp13, .slice A15 v10.1.Kids.length cp16], .blk b7 82 [.int .i64 v10.2.1.Slot, .int .i64 v10.2.1.Gen, .int .i64 0, .int .i64 0, .int .i64 0, .int .i64 0], .blk b18 79 [.slice A12 v10.1.Arena.Slots.length cp13, .slice A15 v10.1.Kids.length cp16], .blk b20 81 [.int .i64 v10.2.1.Slot, .int .i64 v10.2.1.Gen], .blk b35 79 [.slice A29 v27.1.Arena.Slots.length cp30, .slice A32 v27.1.Kids.length cp33], .blk b37 81 [.int .i64 0, .int .i64 0]] [RE.rd k_Slot A12 cp13 v10.1.Arena.Slots, RE.rd (Kd.slice k_Handle) A15 cp16 v10.1.Kids, RE.rd k_Slot A29 cp30 v27.1.Arena.Slots, RE.rd (Kd.slice k_Handle) A32 cp33 v27.1.Kids]) => ?_))
 refine RL_cons (O_store (i := 7) (off := 0) (by exact wn0 rfl) (by rfl) (by rfl) H (by rfl) (vs := [.int .i64 v27.2.1.Slot, .int .i64 v27.2.1.Gen]) (by rfl) sz81 (by rfl) (by rfl) (by rfl) (fun w40 (H : Sep ok w w40 [.blk b1 79 [.slice none 0 0, .slice none 0 0], .blk b3 82 [.int .i64 0, .int .i64 0, .int .i64 0, .int .i64 0, .int .i64 0, .int .i64 0], .blk b5 79 [.slice A12 v10.1.Arena.Slots.length cp13, .slice A15 v10.1.Kids.length cp16], .blk b7 82 [.int .i64 v10.2.1.Slot, .int .i64 v10.2.1.Gen, .int .i64 0, .int .i64 0, .int .i64 0, .int .i64 0], .blk b18 79 [.slice A12 v10.1.Arena.Slots.length cp13, .slice A15 v10.1.Kids.length cp16], .blk b20 81 [.int .i64 v10.2.1.Slot, .int .i64 v10.2.1.Gen], .blk b35 79 [.slice A29 v27.1.Arena.Slots.length cp30, .slice A32 v27.1.Kids.length cp33], .blk b37 81 [.int .i64 v27.2.1.Slot, .int .i64 v27.2.1.Gen]] [RE.rd k_Slot A12 cp13 v10.1.Arena.Slots, RE.rd (Kd.slice k_Handle) A15 cp16 v10.1.Kids, RE.rd k_Slot A29 cp30 v27.1.Arena.Slots, RE.rd (Kd.slice k_Handle) A32 cp33 v27.1.Kids]) => ?_))
 refine RL_pure (by exact wn0 rfl) (by rfl) (by rfl) (x_assign (v := .int .i64 v27.2.2) (by rfl)) ?_
 refine RL_nil ?_
 refine W_seq ?_
 refine W_region ?_
 refine RL_pure (by exact wn0 rfl) (by rfl) (by rfl) (x_move (v := .bool (v10.2.2 == 0)) (by rfl)) ?_
 refine RL_pure (by exact wn0 rfl) (by rfl) (by rfl) (x_move (v := .bool (v10.2.2 == 0)) (by rfl)) ?_
 obtain ⟨b41, hmS, hm⟩ := bind_some hm
 refine RL_cut 3 (fun r' w' => Agr [(30, .bool b41), (0, .pointer (some ⟨b1, 0, none⟩)), (1, .pointer (some ⟨b3, 0, none⟩)), (3, .pointer (some ⟨b5, 0, none⟩)), (4, .pointer (some ⟨b7, 0, none⟩)), (6, .int .i64 1), (7, .pointer (some ⟨b35, 0, none⟩)), (8, .pointer (some ⟨b37, 0, none⟩))] r' ∧ Sep ok w w' [.blk b1 79 [.slice none 0 0, .slice none 0 0], .blk b3 82 [.int .i64 0, .int .i64 0, .int .i64 0, .int .i64 0, .int .i64 0, .int .i64 0], .blk b5 79 [.slice A12 v10.1.Arena.Slots.length cp13, .slice A15 v10.1.Kids.length cp16], .blk b7 82 [.int .i64 v10.2.1.Slot, .int .i64 v10.2.1.Gen, .int .i64 0, .int .i64 0, .int .i64 0, .int .i64 0], .blk b18 79 [.slice A12 v10.1.Arena.Slots.length cp13, .slice A15 v10.1.Kids.length cp16], .blk b20 81 [.int .i64 v10.2.1.Slot, .int .i64 v10.2.1.Gen], .blk b35 79 [.slice A29 v27.1.Arena.Slots.length cp30, .slice A32 v27.1.Kids.length cp33], .blk b37 81 [.int .i64 v27.2.1.Slot, .int .i64 v27.2.1.Gen]] [RE.rd k_Slot A12 cp13 v10.1.Arena.Slots, RE.rd (Kd.slice k_Handle) A15 cp16 v10.1.Kids, RE.rd k_Slot A29 cp30 v27.1.Arena.Slots, RE.rd (Kd.slice k_Handle) A32 cp33 v27.1.Kids]) ?_ ?_
 ·cases hbS : (v10.2.2 == 0)
  ·have hm := cond_f hbS hmS
   refine RL_cons (OpR_off (by exact wn2 rfl rfl rfl rfl) (by rfl) (by rfl) ?_)
   refine RL_cons (OpR_off (by exact wn2 rfl rfl rfl rfl) (by rfl) (by rfl) ?_)
   refine RL_pure (by exact wn0 rfl) (by rfl) (by rfl) (x_pick_f (v := .bool false) (by rfl) (by rfl)) ?_
   refine RL_nil ?_
   exact ⟨⟨congrArg Value.bool (Option.some.inj hm), rfl, rfl, rfl, rfl, rfl, rfl, rfl, trivial⟩, H⟩
  ·have hm := cond_t hbS hmS
   refine RL_pure (by exact wn1 rfl rfl rfl rfl) (by rfl) (by rfl) (x_move (v := .int .i64 v27.2.2) (by rfl)) ?_
   refine RL_pure (by exact wn1 rfl rfl rfl rfl) (by rfl) (by rfl) (x_eql (by rfl) (by rfl)) ?_
   refine RL_pure (by exact wn0 rfl) (by rfl) (by rfl) (x_pick_t (v := .bool (v27.2.2 == 0)) (by rfl) (by rfl)) ?_
   refine RL_nil ?_
   exact ⟨⟨congrArg Value.bool (Option.some.inj hm), rfl, rfl, rfl, rfl, rfl, rfl, rfl, trivial⟩, H⟩
 ·rintro r' w' ⟨hA, H⟩
  obtain ⟨r42, rfl⟩ := regen _ hA; clear hA
  obtain ⟨w43, rfl⟩ : ∃ W : World, W = w' := ⟨_, rfl⟩
  show RL _ _ _ _ _ _ _
  refine RL_pure (by exact wn0 rfl) (by rfl) (by rfl) (x_assign (v := .bool b41) (by rfl)) ?_
  refine RL_nil ?_
  refine W_seq ?_
  refine W_region ?_
  refine RL_pure (by exact wn0 rfl) (by rfl) (by rfl) (x_loadA (j := 0) (vs := [.slice A29 v27.1.Arena.Slots.length cp30, .slice A32 v27.1.Kids.length cp33]) ag79 (by rfl) (H.cells (i := 6) (by rfl)) (by rfl) (by rfl)) ?_
  refine RL_cons (O_store (i := 2) (off := 0) (by exact wn0 rfl) (by rfl) (by rfl) H (by rfl) (vs := [.slice A29 v27.1.Arena.Slots.length cp30, .slice A32 v27.1.Kids.length cp33]) (by rfl) sz79 (by rfl) (by rfl) (by rfl) (fun w44 (H : Sep ok w w44 [.blk b1 79 [.slice none 0 0, .slice none 0 0], .blk b3 82 [.int .i64 0, .int .i64 0, .int .i64 0, .int .i64 0, .int .i64 0, .int .i64 0], .blk b5 79 [.slice A29 v27.1.Arena.Slots.length cp30, .slice A32 v27.1.Kids.length cp33], .blk b7 82 [.int .i64 v10.2.1.Slot, .int .i64 v10.2.1.Gen, .int .i64 0, .int .i64 0, .int .i64 0, .int .i64 0], .blk b18 79 [.slice A12 v10.1.Arena.Slots.length cp13, .slice A15 v10.1.Kids.length cp16], .blk b20 81 [.int .i64 v10.2.1.Slot, .int .i64 v10.2.1.Gen], .blk b35 79 [.slice A29 v27.1.Arena.Slots.length cp30, .slice A32 v27.1.Kids.length cp33], .blk b37 81 [.int .i64 v27.2.1.Slot, .int .i64 v27.2.1.Gen]] [RE.rd k_Slot A12 cp13 v10.1.Arena.Slots, RE.rd (Kd.slice k_Handle) A15 cp16 v10.1.Kids, RE.rd k_Slot A29 cp30 v27.1.Arena.Slots, RE.rd (Kd.slice k_Handle) A32 cp33 v27.1.Kids]) => ?_))
  refine RL_nil ?_
  refine W_region ?_
  refine RL_pure (by exact wn0 rfl) (by rfl) (by rfl) (x_move (v := .int .i64 1) (by rfl)) ?_
  refine RL_pure (by exact wn0 rfl) (by rfl) (by rfl) (x_loadA (j := 0) (vs := [.int .i64 v27.2.1.Slot, .int .i64 v27.2.1.Gen]) ag81 (by rfl) (H.cells (i := 7) (by rfl)) (by rfl) (by rfl)) ?_
  refine RL_pure (by exact wn0 rfl) (by rfl) (by rfl) (x_indexArr ar82 sz81 (by rfl) (by rfl) (by decide) (by decide)) ?_
  refine RL_cons (O_store (i := 3) (off := 2) (by exact wn0 rfl) (by rfl) (by rfl) H (by rfl) (vs := [.int .i64 v27.2.1.Slot, .int .i64 v27.2.1.Gen]) (by rfl) sz81 (by rfl) (by rfl) (by rfl) (fun w45 (H : Sep ok w w45 [.blk b1 79 [.slice none 0 0, .slice none 0 0], .blk b3 82 [.int .i64 0, .int .i64 0, .int .i64 0, .int .i64 0, .int .i64 0, .int .i64 0], .blk b5 79 [.slice A29 v27.1.Arena.Slots.length cp30, .slice A32 v27.1.Kids.length cp33], .blk b7 82 [.int .i64 v10.2.1.Slot, .int .i64 v10.2.1.Gen, .int .i64 v27.2.1.Slot, .int .i64 v27.2.1.Gen, .int .i64 0, .int .i64 0], .blk b18 79 [.slice A12 v10.1.Arena.Slots.length cp13, .slice A15 v10.1.Kids.length cp16], .blk b20 81 [.int .i64 v10.2.1.Slot, .int .i64 v10.2.1.Gen], .blk b35 79 [.slice A29 v27.1.Arena.Slots.length cp30, .slice A32 v27.1.Kids.length cp33], .blk b37 81 [.int .i64 v27.2.1.Slot, .int .i64 v27.2.1.Gen]] [RE.rd k_Slot A12 cp13 v10.1.Arena.Slots, RE.rd (Kd.slice k_Handle) A15 cp16 v10.1.Kids, RE.rd k_Slot A29 cp30 v27.1.Arena.Slots, RE.rd (Kd.slice k_Handle) A32 cp33 v27.1.Kids]) => ?_))
  refine RL_nil ?_
  refine W_region ?_
  refine RL_pure (by exact wn0 rfl) (by rfl) (by rfl) (x_move (v := .int .i64 1) (by rfl)) ?_
  refine RL_pure (by exact wn0 rfl) (by rfl) (by rfl) (x_add (c := 2) (by rfl) (by rfl) (by decide)) ?_
  refine RL_pure (by exact wn0 rfl) (by rfl) (by rfl) (x_assign (v := .int .i64 2) (by rfl)) ?_
  refine RL_nil ?_
  refine WU_succ ?_
  refine W_seq ?_
  refine W_seq ?_
  refine W_region ?_
  refine RL_pure (by exact wn0 rfl) (by rfl) (by rfl) (x_move (v := .int .i64 2) (by rfl)) ?_
  refine RL_pure (by exact wn0 rfl) (by rfl) (by rfl) (x_lss (by rfl) (by rfl)) ?_
  refine RL_nil ?_
  refine W_cond (t := true) (by first | rfl | decide) (fun _ => ?_) (fun hb => by cases hb)
  refine W_skip ?_
  refine W_seq ?_
  refine W_block ?_
  refine W_seq ?_
  refine W_region ?_
  refine RL_pure (by exact wn0 rfl) (by rfl) (by rfl) (x_loadA (j := 0) (vs := [.slice A29 v27.1.Arena.Slots.length cp30, .slice A32 v27.1.Kids.length cp33]) ag79 (by rfl) (H.cells (i := 2) (by rfl)) (by rfl) (by rfl)) ?_
  obtain ⟨v47, hv46, hm⟩ := bind_some hm
  refine RL_cons (O_call (by exact wn0 rfl) (by rfl) (by rfl) (x_callL (by rfl) (args := [.agg #[.slice A29 v27.1.Arena.Slots.length cp30, .slice A32 v27.1.Kids.length cp33]]) (by rfl) (cf45 _ _)) (c45 (okS ok w [.blk b1 79 [.slice none 0 0, .slice none 0 0], .blk b3 82 [.int .i64 0, .int .i64 0, .int .i64 0, .int .i64 0, .int .i64 0, .int .i64 0], .blk b5 79 [.slice A29 v27.1.Arena.Slots.length cp30, .slice A32 v27.1.Kids.length cp33], .blk b7 82 [.int .i64 v10.2.1.Slot, .int .i64 v10.2.1.Gen, .int .i64 v27.2.1.Slot, .int .i64 v27.2.1.Gen, .int .i64 0, .int .i64 0], .blk b18 79 [.slice A12 v10.1.Arena.Slots.length cp13, .slice A15 v10.1.Kids.length cp16], .blk b20 81 [.int .i64 v10.2.1.Slot, .int .i64 v10.2.1.Gen], .blk b35 79 [.slice A29 v27.1.Arena.Slots.length cp30, .slice A32 v27.1.Kids.length cp33], .blk b37 81 [.int .i64 v27.2.1.Slot, .int .i64 v27.2.1.Gen]]) K w45 v27.1 A29 cp30 A32 cp33 (H.rd (i := 2) (by rfl)) (H.rd (i := 3) (by rfl)) v47 hv46) ?_)
  rintro e w48 ⟨A49, cp50, A52, cp53, rfl, H2⟩
  have H : Sep ok w w48 [.blk b1 79 [.slice none 0 0, .slice none 0 0], .blk b3 82 [.int .i64 0, .int .i64 0, .int .i64 0, .int .i64 0, .int .i64 0, .int .i64 0], .blk b5 79 [.slice A29 v27.1.Arena.Slots.length cp30, .slice A32 v27.1.Kids.length cp33], .blk b7 82 [.int .i64 v10.2.1.Slot, .int .i64 v10.2.1.Gen, .int .i64 v27.2.1.Slot, .int .i64 v27.2.1.Gen, .int .i64 0, .int .i64 0], .blk b18 79 [.slice A12 v10.1.Arena.Slots.length cp13, .slice A15 v10.1.Kids.length cp16], .blk b20 81 [.int .i64 v10.2.1.Slot, .int .i64 v10.2.1.Gen], .blk b35 79 [.slice A29 v27.1.Arena.Slots.length cp30, .slice A32 v27.1.Kids.length cp33], .blk b37 81 [.int .i64 v27.2.1.Slot, .int .i64 v27.2.1.Gen]] [RE.rd k_Slot A12 cp13 v10.1.Arena.Slots, RE.rd (Kd.slice k_Handle) A15 cp16 v10.1.Kids, RE.rd k_Slot A29 cp30 v27.1.Arena.Slots, RE.rd (Kd.slice k_Handle) A32 cp33 v27.1.Kids, RE.rd k_Slot A49 cp50 v47.1.Arena.Slots, RE.rd (Kd.slice k_Handle) A52 cp53 v47.1.Kids] := H.call H2
  clear H2
  refine ⟨_, rfl, ?_⟩
  show RL _ _ _ _ _ _ _
  refine RL_pure (by exact wn0 rfl) (by rfl) (by rfl) (x_move (v := tup [.agg #[.slice A49 v47.1.Arena.Slots.length cp50, .slice A52 v47.1.Kids.length cp53], .agg #[.int .i64 v47.2.1.Slot, .int .i64 v47.2.1.Gen], .int .i64 v47.2.2]) (by rfl)) ?_
  refine RL_pure (by exact wn0 rfl) (by rfl) (by rfl) (x_extract (v := .agg #[.slice A49 v47.1.Arena.Slots.length cp50, .slice A52 v47.1.Kids.length cp53]) (by rfl) (by rfl)) ?_
  refine RL_pure (by exact wn0 rfl) (by rfl) (by rfl) (x_extract (v := .agg #[.int .i64 v47.2.1.Slot, .int .i64 v47.2.1.Gen]) (by rfl) (by rfl)) ?_
  refine RL_pure (by exact wn0 rfl) (by rfl) (by rfl) (x_extract (v := .int .i64 v47.2.2) (by rfl) (by rfl)) ?_
  refine RL_cons (O_alloc (by exact wn0 rfl) (by rfl) ze79 (by rfl) H (fun w56 b55 (H : Sep ok w w56 [.blk b1 79 [.slice none 0 0, .slice none 0 0], .blk b3 82 [.int .i64 0, .int .i64 0, .int .i64 0, .int .i64 0, .int .i64 0, .int .i64 0], .blk b5 79 [.slice A29 v27.1.Arena.Slots.length cp30, .slice A32 v27.1.Kids.length cp33], .blk b7 82 [.int .i64 v10.2.1.Slot, .int .i64 v10.2.1.Gen, .int .i64 v27.2.1.Slot, .int .i64 v27.2.1.Gen, .int .i64 0, .int .i64 0], .blk b18 79 [.slice A12 v10.1.Arena.Slots.length cp13, .slice A15 v10.1.Kids.length cp16], .blk b20 81 [.int .i64 v10.2.1.Slot, .int .i64 v10.2.1.Gen], .blk b35 79 [.slice A29 v27.1.Arena.Slots.length cp30, .slice A32 v27.1.Kids.length cp33], .blk b37 81 [.int .i64 v27.2.1.Slot, .int .i64 v27.2.1.Gen], .blk b55 79 [.slice none 0 0, .slice none 0 0]] [RE.rd k_Slot A12 cp13 v10.1.Arena.Slots, RE.rd (Kd.slice k_Handle) A15 cp16 v10.1.Kids, RE.rd k_Slot A29 cp30 v27.1.Arena.Slots, RE.rd (Kd.slice k_Handle) A32 cp33 v27.1.Kids, RE.rd k_Slot A49 cp50 v47.1.Arena.Slots, RE.rd (Kd.slice k_Handle) A52 cp53 v47.1.Kids]) => ?_))
  refine RL_cons (O_alloc (by exact wn0 rfl) (by rfl) ze81 (by rfl) H (fun w58 b57 (H : Sep ok w w58 [.blk b1 79 [.slice none 0 0, .slice none 0 0], .blk b3 82 [.int .i64 0, .int .i64 0, .int .i64 0, .int .i64 0, .int .i64 0, .int .i64 0], .blk b5 79 [.slice A29 v27.1.Arena.Slots.length cp30, .slice A32 v27.1.Kids.length cp33], .blk b7 82 [.int .i64 v10.2.1.Slot, .int .i64 v10.2.1.Gen, .int .i64 v27.2.1.Slot, .int .i64 v27.2.1.Gen, .int .i64 0, .int .i64 0], .blk b18 79 [.slice A12 v10.1.Arena.Slots.length cp13, .slice A15 v10.1.Kids.length cp16], .blk b20 81 [.int .i64 v10.2.1.Slot, .int .i64 v10.2.1.Gen], .blk b35 79 [.slice A29 v27.1.Arena.Slots.length cp30, .slice A32 v27.1.Kids.length cp33], .blk b37 81 [.int .i64 v27.2.1.Slot, .int .i64 v27.2.1.Gen], .blk b55 79 [.slice none 0 0, .slice none 0 0], .blk b57 81 [.int .i64 0, .int .i64 0]] [RE.rd k_Slot A12 cp13 v10.1.Arena.Slots, RE.rd (Kd.slice k_Handle) A15 cp16 v10.1.Kids, RE.rd k_Slot A29 cp30 v27.1.Arena.Slots, RE.rd (Kd.slice k_Handle) A32 cp33 v27.1.Kids, RE.rd k_Slot A49 cp50 v47.1.Arena.Slots, RE.rd (Kd.slice k_Handle) A52 cp53 v47.1.Kids]) => ?_))
  refine RL_cons (O_store (i := 8) (off := 0) (by exact wn0 rfl) (by rfl) (by rfl) H (by rfl) (vs := [.slice A49 v47.1.Arena.Slots.length cp50, .slice A52 v47.1.Kids.length cp53]) (by rfl) sz79 (by rfl) (by rfl) (by rfl) (fun w59 (H : Sep ok w w59 [.blk b1 79 [.slice none 0 0, .slice none 0 0], .blk b3 82 [.int .i64 0, .int .i64 0, .int .i64 0, .int .i64 0, .int .i64 0, .int .i64 0], .blk b5 79 [.slice A29 v27.1.Arena.Slots.length cp30, .slice A32 v27.1.Kids.length cp33], .blk b7 82 [.int .i64 v10.2.1.Slot, .int .i64 v10.2.1.Gen, .int .i64 v27.2.1.Slot, .int .i64 v27.2.1.Gen, .int .i64 0, .int .i64 0], .blk b18 79 [.slice A12 v10.1.Arena.Slots.length cp13, .slice A15 v10.1.Kids.length cp16], .blk b20 81 [.int .i64 v10.2.1.Slot, .int .i64 v10.2.1.Gen], .blk b35 79 [.slice A29 v27.1.Arena.Slots.length cp30, .slice A32 v27.1.Kids.length cp33], .blk b37 81 [.int .i64 v27.2.1.Slot, .int .i64 v27.2.1.Gen], .blk b55 79 [.slice A49 v47.1.Arena.Slots.length cp50, .slice A52 v47.1.Kids.length cp53], .blk b57 81 [.int .i64 0, .int .i64 0]] [RE.rd k_Slot A12 cp13 v10.1.Arena.Slots, RE.rd (Kd.slice k_Handle) A15 cp16 v10.1.Kids, RE.rd k_Slot A29 cp30 v27.1.Arena.Slots, RE.rd (Kd.slice k_Handle) A32 cp33 v27.1.Kids, RE.rd k_Slot A49 cp50 v47.1.Arena.Slots, RE.rd (Kd.slice k_Handle) A52 cp53 v47.1.Kids]) => ?_))
  refine RL_cons (O_store (i := 9) (off := 0) (by exact wn0 rfl) (by rfl) (by rfl) H (by rfl) (vs := [.int .i64 v47.2.1.Slot, .int .i64 v47.2.1.Gen]) (by rfl) sz81 (by rfl) (by rfl) (by rfl) (fun w60 (H : Sep ok w w60 [.blk b1 79 [.slice none 0 0, .slice none 0 0], .blk b3 82 [.int .i64 0, .int .i64 0, .int .i64 0, .int .i64 0, .int .i64 0, .int .i64 0], .blk b5 79 [.slice A29 v27.1.Arena.Slots.length cp30, .slice A32 v27.1.Kids.length cp33], .blk b7 82 [.int .i64 v10.2.1.Slot, .int .i64 v10.2.1.Gen, .int .i64 v27.2.1.Slot, .int .i64 v27.2.1.Gen, .int .i64 0, .int .i64 0], .blk b18 79 [.slice A12 v10.1.Arena.Slots.length cp13, .slice A15 v10.1.Kids.length cp16], .blk b20 81 [.int .i64 v10.2.1.Slot, .int .i64 v10.2.1.Gen], .blk b35 79 [.slice A29 v27.1.Arena.Slots.length cp30, .slice A32 v27.1.Kids.length cp33], .blk b37 81 [.int .i64 v27.2.1.Slot, .int .i64 v27.2.1.Gen], .blk b55 79 [.slice A49 v47.1.Arena.Slots.length cp50, .slice A52 v47.1.Kids.length cp53], .blk b57 81 [.int .i64 v47.2.1.Slot, .int .i64 v47.2.1.Gen]] [RE.rd k_Slot A12 cp13 v10.1.Arena.Slots, RE.rd (Kd.slice k_Handle) A15 cp16 v10.1.Kids, RE.rd k_Slot A29 cp30 v27.1.Arena.Slots, RE.rd (Kd.slice k_Handle) A32 cp33 v27.1.Kids, RE.rd k_Slot A49 cp50 v47.1.Arena.Slots, RE.rd (Kd.slice k_Handle) A52 cp53 v47.1.Kids]) => ?_))
  refine RL_pure (by exact wn0 rfl) (by rfl) (by rfl) (x_assign (v := .int .i64 v47.2.2) (by rfl)) ?_
  refine RL_nil ?_
  refine W_seq ?_
  refine W_region ?_
  refine RL_pure (by exact wn0 rfl) (by rfl) (by rfl) (x_move (v := .bool b41) (by rfl)) ?_
  refine RL_pure (by exact wn0 rfl) (by rfl) (by rfl) (x_move (v := .bool b41) (by rfl)) ?_
  obtain ⟨b61, hmS, hm⟩ := bind_some hm
  refine RL_cut 3 (fun r' w' => Agr [(30, .bool b61), (0, .pointer (some ⟨b1, 0, none⟩)), (1, .pointer (some ⟨b3, 0, none⟩)), (3, .pointer (some ⟨b5, 0, none⟩)), (4, .pointer (some ⟨b7, 0, none⟩)), (6, .int .i64 2), (7, .pointer (some ⟨b55, 0, none⟩)), (8, .pointer (some ⟨b57, 0, none⟩))] r' ∧ Sep ok w w' [.blk b1 79 [.slice none 0 0, .slice none 0 0], .blk b3 82 [.int .i64 0, .int .i64 0, .int .i64 0, .int .i64 0, .int .i64 0, .int .i64 0], .blk b5 79 [.slice A29 v27.1.Arena.Slots.length cp30, .slice A32 v27.1.Kids.length cp33], .blk b7 82 [.int .i64 v10.2.1.Slot, .int .i64 v10.2.1.Gen, .int .i64 v27.2.1.Slot, .int .i64 v27.2.1.Gen, .int .i64 0, .int .i64 0], .blk b18 79 [.slice A12 v10.1.Arena.Slots.length cp13, .slice A15 v10.1.Kids.length cp16], .blk b20 81 [.int .i64 v10.2.1.Slot, .int .i64 v10.2.1.Gen], .blk b35 79 [.slice A29 v27.1.Arena.Slots.length cp30, .slice A32 v27.1.Kids.length cp33], .blk b37 81 [.int .i64 v27.2.1.Slot, .int .i64 v27.2.1.Gen], .blk b55 79 [.slice A49 v47.1.Arena.Slots.length cp50, .slice A52 v47.1.Kids.length cp53], .blk b57 81 [.int .i64 v47.2.1.Slot, .int .i64 v47.2.1.Gen]] [RE.rd k_Slot A12 cp13 v10.1.Arena.Slots, RE.rd (Kd.slice k_Handle) A15 cp16 v10.1.Kids, RE.rd k_Slot A29 cp30 v27.1.Arena.Slots, RE.rd (Kd.slice k_Handle) A32 cp33 v27.1.Kids, RE.rd k_Slot A49 cp50 v47.1.Arena.Slots, RE.rd (Kd.slice k_Handle) A52 cp53 v47.1.Kids]) ?_ ?_
  ·cases hbS : b41
   ·have hm := cond_f hbS hmS
    refine RL_cons (OpR_off (by exact wn2 rfl rfl rfl rfl) (by rfl) (by rfl) ?_)
    refine RL_cons (OpR_off (by exact wn2 rfl rfl rfl rfl) (by rfl) (by rfl) ?_)
    refine RL_pure (by exact wn0 rfl) (by rfl) (by rfl) (x_pick_f (v := .bool false) (by rfl) (by rfl)) ?_
    refine RL_nil ?_
    exact ⟨⟨congrArg Value.bool (Option.some.inj hm), rfl, rfl, rfl, rfl, rfl, rfl, rfl, trivial⟩, H⟩
   ·have hm := cond_t hbS hmS
    refine RL_pure (by exact wn1 rfl rfl rfl rfl) (by rfl) (by rfl) (x_move (v := .int .i64 v47.2.2) (by rfl)) ?_
    refine RL_pure (by exact wn1 rfl rfl rfl rfl) (by rfl) (by rfl) (x_eql (by rfl) (by rfl)) ?_
    refine RL_pure (by exact wn0 rfl) (by rfl) (by rfl) (x_pick_t (v := .bool (v47.2.2 == 0)) (by rfl) (by rfl)) ?_
    refine RL_nil ?_
    exact ⟨⟨congrArg Value.bool (Option.some.inj hm), rfl, rfl, rfl, rfl, rfl, rfl, rfl, trivial⟩, H⟩
  ·rintro r' w' ⟨hA, H⟩
   obtain ⟨r62, rfl⟩ := regen _ hA; clear hA
   obtain ⟨w63, rfl⟩ : ∃ W : World, W = w' := ⟨_, rfl⟩
   show RL _ _ _ _ _ _ _
   refine RL_pure (by exact wn0 rfl) (by rfl) (by rfl) (x_assign (v := .bool b61) (by rfl)) ?_
   refine RL_nil ?_
   refine W_seq ?_
   refine W_region ?_
   refine RL_pure (by exact wn0 rfl) (by rfl) (by rfl) (x_loadA (j := 0) (vs := [.slice A49 v47.1.Arena.Slots.length cp50, .slice A52 v47.1.Kids.length cp53]) ag79 (by rfl) (H.cells (i := 8) (by rfl)) (by rfl) (by rfl)) ?_
   refine RL_cons (O_store (i := 2) (off := 0) (by exact wn0 rfl) (by rfl) (by rfl) H (by rfl) (vs := [.slice A49 v47.1.Arena.Slots.length cp50, .slice A52 v47.1.Kids.length cp53]) (by rfl) sz79 (by rfl) (by rfl) (by rfl) (fun w64 (H : Sep ok w w64 [.blk b1 79 [.slice none 0 0, .slice none 0 0], .blk b3 82 [.int .i64 0, .int .i64 0, .int .i64 0, .int .i64 0, .int .i64 0, .int .i64 0], .blk b5 79 [.slice A49 v47.1.Arena.Slots.length cp50, .slice A52 v47.1.Kids.length cp53], .blk b7 82 [.int .i64 v10.2.1.Slot, .int .i64 v10.2.1.Gen, .int .i64 v27.2.1.Slot, .int .i64 v27.2.1.Gen, .int .i64 0, .int .i64 0], .blk b18 79 [.slice A12 v10.1.Arena.Slots.length cp13, .slice A15 v10.1.Kids.length cp16], .blk b20 81 [.int .i64 v10.2.1.Slot, .int .i64 v10.2.1.Gen], .blk b35 79 [.slice A29 v27.1.Arena.Slots.length cp30, .slice A32 v27.1.Kids.length cp33], .blk b37 81 [.int .i64 v27.2.1.Slot, .int .i64 v27.2.1.Gen], .blk b55 79 [.slice A49 v47.1.Arena.Slots.length cp50, .slice A52 v47.1.Kids.length cp53], .blk b57 81 [.int .i64 v47.2.1.Slot, .int .i64 v47.2.1.Gen]] [RE.rd k_Slot A12 cp13 v10.1.Arena.Slots, RE.rd (Kd.slice k_Handle) A15 cp16 v10.1.Kids, RE.rd k_Slot A29 cp30 v27.1.Arena.Slots, RE.rd (Kd.slice k_Handle) A32 cp33 v27.1.Kids, RE.rd k_Slot A49 cp50 v47.1.Arena.Slots, RE.rd (Kd.slice k_Handle) A52 cp53 v47.1.Kids]) => ?_))
   refine RL_nil ?_
   refine W_region ?_
   refine RL_pure (by exact wn0 rfl) (by rfl) (by rfl) (x_move (v := .int .i64 2) (by rfl)) ?_
   refine RL_pure (by exact wn0 rfl) (by rfl) (by rfl) (x_loadA (j := 0) (vs := [.int .i64 v47.2.1.Slot, .int .i64 v47.2.1.Gen]) ag81 (by rfl) (H.cells (i := 9) (by rfl)) (by rfl) (by rfl)) ?_
   refine RL_pure (by exact wn0 rfl) (by rfl) (by rfl) (x_indexArr ar82 sz81 (by rfl) (by rfl) (by decide) (by decide)) ?_
   refine RL_cons (O_store (i := 3) (off := 4) (by exact wn0 rfl) (by rfl) (by rfl) H (by rfl) (vs := [.int .i64 v47.2.1.Slot, .int .i64 v47.2.1.Gen]) (by rfl) sz81 (by rfl) (by rfl) (by rfl) (fun w65 (H : Sep ok w w65 [.blk b1 79 [.slice none 0 0, .slice none 0 0], .blk b3 82 [.int .i64 0, .int .i64 0, .int .i64 0, .int .i64 0, .int .i64 0, .int .i64 0], .blk b5 79 [.slice A49 v47.1.Arena.Slots.length cp50, .slice A52 v47.1.Kids.length cp53], .blk b7 82 [.int .i64 v10.2.1.Slot, .int .i64 v10.2.1.Gen, .int .i64 v27.2.1.Slot, .int .i64 v27.2.1.Gen, .int .i64 v47.2.1.Slot, .int .i64 v47.2.1.Gen], .blk b18 79 [.slice A12 v10.1.Arena.Slots.length cp13, .slice A15 v10.1.Kids.length cp16], .blk b20 81 [.int .i64 v10.2.1.Slot, .int .i64 v10.2.1.Gen], .blk b35 79 [.slice A29 v27.1.Arena.Slots.length cp30, .slice A32 v27.1.Kids.length cp33], .blk b37 81 [.int .i64 v27.2.1.Slot, .int .i64 v27.2.1.Gen], .blk b55 79 [.slice A49 v47.1.Arena.Slots.length cp50, .slice A52 v47.1.Kids.length cp53], .blk b57 81 [.int .i64 v47.2.1.Slot, .int .i64 v47.2.1.Gen]] [RE.rd k_Slot A12 cp13 v10.1.Arena.Slots, RE.rd (Kd.slice k_Handle) A15 cp16 v10.1.Kids, RE.rd k_Slot A29 cp30 v27.1.Arena.Slots, RE.rd (Kd.slice k_Handle) A32 cp33 v27.1.Kids, RE.rd k_Slot A49 cp50 v47.1.Arena.Slots, RE.rd (Kd.slice k_Handle) A52 cp53 v47.1.Kids]) => ?_))
   refine RL_nil ?_
   refine W_region ?_
   refine RL_pure (by exact wn0 rfl) (by rfl) (by rfl) (x_move (v := .int .i64 2) (by rfl)) ?_
   refine RL_pure (by exact wn0 rfl) (by rfl) (by rfl) (x_add (c := 3) (by rfl) (by rfl) (by decide)) ?_
   refine RL_pure (by exact wn0 rfl) (by rfl) (by rfl) (x_assign (v := .int .i64 3) (by rfl)) ?_
   refine RL_nil ?_
   refine WU_succ ?_
   refine W_seq ?_
   refine W_seq ?_
   refine W_region ?_
   refine RL_pure (by exact wn0 rfl) (by rfl) (by rfl) (x_move (v := .int .i64 3) (by rfl)) ?_
   refine RL_pure (by exact wn0 rfl) (by rfl) (by rfl) (x_lss (by rfl) (by rfl)) ?_
   refine RL_nil ?_
   refine W_cond (t := false) (by first | rfl | decide) (fun hb => by cases hb) (fun _ => ?_)
   refine W_exit ?_
   refine W_seq ?_
   refine W_region ?_
   refine RL_pure (by exact wn0 rfl) (by rfl) (by rfl) (x_loadA (j := 0) (vs := [.slice A49 v47.1.Arena.Slots.length cp50, .slice A52 v47.1.Kids.length cp53]) ag79 (by rfl) (H.cells (i := 2) (by rfl)) (by rfl) (by rfl)) ?_
   refine RL_pure (by exact wn0 rfl) (by rfl) (by rfl) (x_indexArr ar82 sz81 (by rfl) (by rfl) (by decide) (by decide)) ?_
   refine RL_pure (by exact wn0 rfl) (by rfl) (by rfl) (x_loadA (j := 0) (vs := [.int .i64 v10.2.1.Slot, .int .i64 v10.2.1.Gen]) ag81 (by rfl) (H.cells (i := 3) (by rfl)) (by rfl) (by rfl)) ?_
   refine RL_pure (by exact wn0 rfl) (by rfl) (by rfl) (x_indexArr ar82 sz81 (by rfl) (by rfl) (by decide) (by decide)) ?_
   refine RL_pure (by exact wn0 rfl) (by rfl) (by rfl) (x_loadA (j := 2) (vs := [.int .i64 v27.2.1.Slot, .int .i64 v27.2.1.Gen]) ag81 (by rfl) (H.cells (i := 3) (by rfl)) (by rfl) (by rfl)) ?_
   obtain ⟨v67, hv66, hm⟩ := bind_some hm
   refine RL_cons (O_call (by exact wn0 rfl) (by rfl) (by rfl) (x_callL (by rfl) (args := [.agg #[.slice A49 v47.1.Arena.Slots.length cp50, .slice A52 v47.1.Kids.length cp53], .agg #[.int .i64 v10.2.1.Slot, .int .i64 v10.2.1.Gen], .agg #[.int .i64 v27.2.1.Slot, .int .i64 v27.2.1.Gen], .int .i64 0]) (by rfl) (cf38 _ _)) (c38 (okS ok w [.blk b1 79 [.slice none 0 0, .slice none 0 0], .blk b3 82 [.int .i64 0, .int .i64 0, .int .i64 0, .int .i64 0, .int .i64 0, .int .i64 0], .blk b5 79 [.slice A49 v47.1.Arena.Slots.length cp50, .slice A52 v47.1.Kids.length cp53], .blk b7 82 [.int .i64 v10.2.1.Slot, .int .i64 v10.2.1.Gen, .int .i64 v27.2.1.Slot, .int .i64 v27.2.1.Gen, .int .i64 v47.2.1.Slot, .int .i64 v47.2.1.Gen], .blk b18 79 [.slice A12 v10.1.Arena.Slots.length cp13, .slice A15 v10.1.Kids.length cp16], .blk b20 81 [.int .i64 v10.2.1.Slot, .int .i64 v10.2.1.Gen], .blk b35 79 [.slice A29 v27.1.Arena.Slots.length cp30, .slice A32 v27.1.Kids.length cp33], .blk b37 81 [.int .i64 v27.2.1.Slot, .int .i64 v27.2.1.Gen], .blk b55 79 [.slice A49 v47.1.Arena.Slots.length cp50, .slice A52 v47.1.Kids.length cp53], .blk b57 81 [.int .i64 v47.2.1.Slot, .int .i64 v47.2.1.Gen]]) K w65 v47.1 A49 cp50 A52 cp53 v10.2.1 v27.2.1 0 (H.rd (i := 4) (by rfl)) (H.rd (i := 5) (by rfl)) v67 hv66) ?_)
   rintro e w68 ⟨A69, cp70, A72, cp73, rfl, H2⟩
   have H : Sep ok w w68 [.blk b1 79 [.slice none 0 0, .slice none 0 0], .blk b3 82 [.int .i64 0, .int .i64 0, .int .i64 0, .int .i64 0, .int .i64 0, .int .i64 0], .blk b5 79 [.slice A49 v47.1.Arena.Slots.length cp50, .slice A52 v47.1.Kids.length cp53], .blk b7 82 [.int .i64 v10.2.1.Slot, .int .i64 v10.2.1.Gen, .int .i64 v27.2.1.Slot, .int .i64 v27.2.1.Gen, .int .i64 v47.2.1.Slot, .int .i64 v47.2.1.Gen], .blk b18 79 [.slice A12 v10.1.Arena.Slots.length cp13, .slice A15 v10.1.Kids.length cp16], .blk b20 81 [.int .i64 v10.2.1.Slot, .int .i64 v10.2.1.Gen], .blk b35 79 [.slice A29 v27.1.Arena.Slots.length cp30, .slice A32 v27.1.Kids.length cp33], .blk b37 81 [.int .i64 v27.2.1.Slot, .int .i64 v27.2.1.Gen], .blk b55 79 [.slice A49 v47.1.Arena.Slots.length cp50, .slice A52 v47.1.Kids.length cp53], .blk b57 81 [.int .i64 v47.2.1.Slot, .int .i64 v47.2.1.Gen]] [RE.rd k_Slot A12 cp13 v10.1.Arena.Slots, RE.rd (Kd.slice k_Handle) A15 cp16 v10.1.Kids, RE.rd k_Slot A29 cp30 v27.1.Arena.Slots, RE.rd (Kd.slice k_Handle) A32 cp33 v27.1.Kids, RE.rd k_Slot A49 cp50 v47.1.Arena.Slots, RE.rd (Kd.slice k_Handle) A52 cp53 v47.1.Kids, RE.rd k_Slot A69 cp70 v67.1.Arena.Slots, RE.rd (Kd.slice k_Handle) A72 cp73 v67.1.Kids] := H.call H2
   clear H2
   refine ⟨_, rfl, ?_⟩
   show RL _ _ _ _ _ _ _
   refine RL_pure (by exact wn0 rfl) (by rfl) (by rfl) (x_move (v := tup [.agg #[.slice A69 v67.1.Arena.Slots.length cp70, .slice A72 v67.1.Kids.length cp73], .int .i64 v67.2]) (by rfl)) ?_
   refine RL_pure (by exact wn0 rfl) (by rfl) (by rfl) (x_extract (v := .agg #[.slice A69 v67.1.Arena.Slots.length cp70, .slice A72 v67.1.Kids.length cp73]) (by rfl) (by rfl)) ?_
   refine RL_pure (by exact wn0 rfl) (by rfl) (by rfl) (x_extract (v := .int .i64 v67.2) (by rfl) (by rfl)) ?_
   refine RL_cons (O_alloc (by exact wn0 rfl) (by rfl) ze79 (by rfl) H (fun w76 b75 (H : Sep ok w w76 [.blk b1 79 [.slice none 0 0, .slice none 0 0], .blk b3 82 [.int .i64 0, .int .i64 0, .int .i64 0, .int .i64 0, .int .i64 0, .int .i64 0], .blk b5 79 [.slice A49 v47.1.Arena.Slots.length cp50, .slice A52 v47.1.Kids.length cp53], .blk b7 82 [.int .i64 v10.2.1.Slot, .int .i64 v10.2.1.Gen, .int .i64 v27.2.1.Slot, .int .i64 v27.2.1.Gen, .int .i64 v47.2.1.Slot, .int .i64 v47.2.1.Gen], .blk b18 79 [.slice A12 v10.1.Arena.Slots.length cp13, .slice A15 v10.1.Kids.length cp16], .blk b20 81 [.int .i64 v10.2.1.Slot, .int .i64 v10.2.1.Gen], .blk b35 79 [.slice A29 v27.1.Arena.Slots.length cp30, .slice A32 v27.1.Kids.length cp33], .blk b37 81 [.int .i64 v27.2.1.Slot, .int .i64 v27.2.1.Gen], .blk b55 79 [.slice A49 v47.1.Arena.Slots.length cp50, .slice A52 v47.1.Kids.length cp53], .blk b57 81 [.int .i64 v47.2.1.Slot, .int .i64 v47.2.1.Gen], .blk b75 79 [.slice none 0 0, .slice none 0 0]] [RE.rd k_Slot A12 cp13 v10.1.Arena.Slots, RE.rd (Kd.slice k_Handle) A15 cp16 v10.1.Kids, RE.rd k_Slot A29 cp30 v27.1.Arena.Slots, RE.rd (Kd.slice k_Handle) A32 cp33 v27.1.Kids, RE.rd k_Slot A49 cp50 v47.1.Arena.Slots, RE.rd (Kd.slice k_Handle) A52 cp53 v47.1.Kids, RE.rd k_Slot A69 cp70 v67.1.Arena.Slots, RE.rd (Kd.slice k_Handle) A72 cp73 v67.1.Kids]) => ?_))
   refine RL_cons (O_store (i := 10) (off := 0) (by exact wn0 rfl) (by rfl) (by rfl) H (by rfl) (vs := [.slice A69 v67.1.Arena.Slots.length cp70, .slice A72 v67.1.Kids.length cp73]) (by rfl) sz79 (by rfl) (by rfl) (by rfl) (fun w77 (H : Sep ok w w77 [.blk b1 79 [.slice none 0 0, .slice none 0 0], .blk b3 82 [.int .i64 0, .int .i64 0, .int .i64 0, .int .i64 0, .int .i64 0, .int .i64 0], .blk b5 79 [.slice A49 v47.1.Arena.Slots.length cp50, .slice A52 v47.1.Kids.length cp53], .blk b7 82 [.int .i64 v10.2.1.Slot, .int .i64 v10.2.1.Gen, .int .i64 v27.2.1.Slot, .int .i64 v27.2.1.Gen, .int .i64 v47.2.1.Slot, .int .i64 v47.2.1.Gen], .blk b18 79 [.slice A12 v10.1.Arena.Slots.length cp13, .slice A15 v10.1.Kids.length cp16], .blk b20 81 [.int .i64 v10.2.1.Slot, .int .i64 v10.2.1.Gen], .blk b35 79 [.slice A29 v27.1.Arena.Slots.length cp30, .slice A32 v27.1.Kids.length cp33], .blk b37 81 [.int .i64 v27.2.1.Slot, .int .i64 v27.2.1.Gen], .blk b55 79 [.slice A49 v47.1.Arena.Slots.length cp50, .slice A52 v47.1.Kids.length cp53], .blk b57 81 [.int .i64 v47.2.1.Slot, .int .i64 v47.2.1.Gen], .blk b75 79 [.slice A69 v67.1.Arena.Slots.length cp70, .slice A72 v67.1.Kids.length cp73]] [RE.rd k_Slot A12 cp13 v10.1.Arena.Slots, RE.rd (Kd.slice k_Handle) A15 cp16 v10.1.Kids, RE.rd k_Slot A29 cp30 v27.1.Arena.Slots, RE.rd (Kd.slice k_Handle) A32 cp33 v27.1.Kids, RE.rd k_Slot A49 cp50 v47.1.Arena.Slots, RE.rd (Kd.slice k_Handle) A52 cp53 v47.1.Kids, RE.rd k_Slot A69 cp70 v67.1.Arena.Slots, RE.rd (Kd.slice k_Handle) A72 cp73 v67.1.Kids]) => ?_))
   refine RL_pure (by exact wn0 rfl) (by rfl) (by rfl) (x_assign (v := .int .i64 v67.2) (by rfl)) ?_
   refine RL_nil ?_
   refine W_seq ?_
   refine W_region ?_
   refine RL_pure (by exact wn0 rfl) (by rfl) (by rfl) (x_loadA (j := 0) (vs := [.slice A69 v67.1.Arena.Slots.length cp70, .slice A72 v67.1.Kids.length cp73]) ag79 (by rfl) (H.cells (i := 10) (by rfl)) (by rfl) (by rfl)) ?_
   refine RL_pure (by exact wn0 rfl) (by rfl) (by rfl) (x_indexArr ar82 sz81 (by rfl) (by rfl) (by decide) (by decide)) ?_
   refine RL_pure (by exact wn0 rfl) (by rfl) (by rfl) (x_loadA (j := 0) (vs := [.int .i64 v10.2.1.Slot, .int .i64 v10.2.1.Gen]) ag81 (by rfl) (H.cells (i := 3) (by rfl)) (by rfl) (by rfl)) ?_
   refine RL_pure (by exact wn0 rfl) (by rfl) (by rfl) (x_indexArr ar82 sz81 (by rfl) (by rfl) (by decide) (by decide)) ?_
   refine RL_pure (by exact wn0 rfl) (by rfl) (by rfl) (x_loadA (j := 2) (vs := [.int .i64 v27.2.1.Slot, .int .i64 v27.2.1.Gen]) ag81 (by rfl) (H.cells (i := 3) (by rfl)) (by rfl) (by rfl)) ?_
   obtain ⟨v79, hv78, hm⟩ := bind_some hm
   refine RL_cons (O_call (by exact wn0 rfl) (by rfl) (by rfl) (x_callL (by rfl) (args := [.agg #[.slice A69 v67.1.Arena.Slots.length cp70, .slice A72 v67.1.Kids.length cp73], .agg #[.int .i64 v10.2.1.Slot, .int .i64 v10.2.1.Gen], .agg #[.int .i64 v27.2.1.Slot, .int .i64 v27.2.1.Gen], .int .i64 1]) (by rfl) (cf38 _ _)) (c38 (okS ok w [.blk b1 79 [.slice none 0 0, .slice none 0 0], .blk b3 82 [.int .i64 0, .int .i64 0, .int .i64 0, .int .i64 0, .int .i64 0, .int .i64 0], .blk b5 79 [.slice A49 v47.1.Arena.Slots.length cp50, .slice A52 v47.1.Kids.length cp53], .blk b7 82 [.int .i64 v10.2.1.Slot, .int .i64 v10.2.1.Gen, .int .i64 v27.2.1.Slot, .int .i64 v27.2.1.Gen, .int .i64 v47.2.1.Slot, .int .i64 v47.2.1.Gen], .blk b18 79 [.slice A12 v10.1.Arena.Slots.length cp13, .slice A15 v10.1.Kids.length cp16], .blk b20 81 [.int .i64 v10.2.1.Slot, .int .i64 v10.2.1.Gen], .blk b35 79 [.slice A29 v27.1.Arena.Slots.length cp30, .slice A32 v27.1.Kids.length cp33], .blk b37 81 [.int .i64 v27.2.1.Slot, .int .i64 v27.2.1.Gen], .blk b55 79 [.slice A49 v47.1.Arena.Slots.length cp50, .slice A52 v47.1.Kids.length cp53], .blk b57 81 [.int .i64 v47.2.1.Slot, .int .i64 v47.2.1.Gen], .blk b75 79 [.slice A69 v67.1.Arena.Slots.length cp70, .slice A72 v67.1.Kids.length cp73]]) K w77 v67.1 A69 cp70 A72 cp73 v10.2.1 v27.2.1 1 (H.rd (i := 6) (by rfl)) (H.rd (i := 7) (by rfl)) v79 hv78) ?_)
   rintro e w80 ⟨A81, cp82, A84, cp85, rfl, H2⟩
   have H : Sep ok w w80 [.blk b1 79 [.slice none 0 0, .slice none 0 0], .blk b3 82 [.int .i64 0, .int .i64 0, .int .i64 0, .int .i64 0, .int .i64 0, .int .i64 0], .blk b5 79 [.slice A49 v47.1.Arena.Slots.length cp50, .slice A52 v47.1.Kids.length cp53], .blk b7 82 [.int .i64 v10.2.1.Slot, .int .i64 v10.2.1.Gen, .int .i64 v27.2.1.Slot, .int .i64 v27.2.1.Gen, .int .i64 v47.2.1.Slot, .int .i64 v47.2.1.Gen], .blk b18 79 [.slice A12 v10.1.Arena.Slots.length cp13, .slice A15 v10.1.Kids.length cp16], .blk b20 81 [.int .i64 v10.2.1.Slot, .int .i64 v10.2.1.Gen], .blk b35 79 [.slice A29 v27.1.Arena.Slots.length cp30, .slice A32 v27.1.Kids.length cp33], .blk b37 81 [.int .i64 v27.2.1.Slot, .int .i64 v27.2.1.Gen], .blk b55 79 [.slice A49 v47.1.Arena.Slots.length cp50, .slice A52 v47.1.Kids.length cp53], .blk b57 81 [.int .i64 v47.2.1.Slot, .int .i64 v47.2.1.Gen], .blk b75 79 [.slice A69 v67.1.Arena.Slots.length cp70, .slice A72 v67.1.Kids.length cp73]] [RE.rd k_Slot A12 cp13 v10.1.Arena.Slots, RE.rd (Kd.slice k_Handle) A15 cp16 v10.1.Kids, RE.rd k_Slot A29 cp30 v27.1.Arena.Slots, RE.rd (Kd.slice k_Handle) A32 cp33 v27.1.Kids, RE.rd k_Slot A49 cp50 v47.1.Arena.Slots, RE.rd (Kd.slice k_Handle) A52 cp53 v47.1.Kids, RE.rd k_Slot A69 cp70 v67.1.Arena.Slots, RE.rd (Kd.slice k_Handle) A72 cp73 v67.1.Kids, RE.rd k_Slot A81 cp82 v79.1.Arena.Slots, RE.rd (Kd.slice k_Handle) A84 cp85 v79.1.Kids] := H.call H2
   clear H2
   refine ⟨_, rfl, ?_⟩
   show RL _ _ _ _ _ _ _
   refine RL_pure (by exact wn0 rfl) (by rfl) (by rfl) (x_move (v := tup [.agg #[.slice A81 v79.1.Arena.Slots.length cp82, .slice A84 v79.1.Kids.length cp85], .int .i64 v79.2]) (by rfl)) ?_
   refine RL_pure (by exact wn0 rfl) (by rfl) (by rfl) (x_extract (v := .agg #[.slice A81 v79.1.Arena.Slots.length cp82, .slice A84 v79.1.Kids.length cp85]) (by rfl) (by rfl)) ?_
   refine RL_pure (by exact wn0 rfl) (by rfl) (by rfl) (x_extract (v := .int .i64 v79.2) (by rfl) (by rfl)) ?_
   refine RL_cons (O_alloc (by exact wn0 rfl) (by rfl) ze79 (by rfl) H (fun w88 b87 (H : Sep ok w w88 [.blk b1 79 [.slice none 0 0, .slice none 0 0], .blk b3 82 [.int .i64 0, .int .i64 0, .int .i64 0, .int .i64 0, .int .i64 0, .int .i64 0], .blk b5 79 [.slice A49 v47.1.Arena.Slots.length cp50, .slice A52 v47.1.Kids.length cp53], .blk b7 82 [.int .i64 v10.2.1.Slot, .int .i64 v10.2.1.Gen, .int .i64 v27.2.1.Slot, .int .i64 v27.2.1.Gen, .int .i64 v47.2.1.Slot, .int .i64 v47.2.1.Gen], .blk b18 79 [.slice A12 v10.1.Arena.Slots.length cp13, .slice A15 v10.1.Kids.length cp16], .blk b20 81 [.int .i64 v10.2.1.Slot, .int .i64 v10.2.1.Gen], .blk b35 79 [.slice A29 v27.1.Arena.Slots.length cp30, .slice A32 v27.1.Kids.length cp33], .blk b37 81 [.int .i64 v27.2.1.Slot, .int .i64 v27.2.1.Gen], .blk b55 79 [.slice A49 v47.1.Arena.Slots.length cp50, .slice A52 v47.1.Kids.length cp53], .blk b57 81 [.int .i64 v47.2.1.Slot, .int .i64 v47.2.1.Gen], .blk b75 79 [.slice A69 v67.1.Arena.Slots.length cp70, .slice A72 v67.1.Kids.length cp73], .blk b87 79 [.slice none 0 0, .slice none 0 0]] [RE.rd k_Slot A12 cp13 v10.1.Arena.Slots, RE.rd (Kd.slice k_Handle) A15 cp16 v10.1.Kids, RE.rd k_Slot A29 cp30 v27.1.Arena.Slots, RE.rd (Kd.slice k_Handle) A32 cp33 v27.1.Kids, RE.rd k_Slot A49 cp50 v47.1.Arena.Slots, RE.rd (Kd.slice k_Handle) A52 cp53 v47.1.Kids, RE.rd k_Slot A69 cp70 v67.1.Arena.Slots, RE.rd (Kd.slice k_Handle) A72 cp73 v67.1.Kids, RE.rd k_Slot A81 cp82 v79.1.Arena.Slots, RE.rd (Kd.slice k_Handle) A84 cp85 v79.1.Kids]) => ?_))
   refine RL_cons (O_store (i := 11) (off := 0) (by exact wn0 rfl) (by rfl) (by rfl) H (by rfl) (vs := [.slice A81 v79.1.Arena.Slots.length cp82, .slice A84 v79.1.Kids.length cp85]) (by rfl) sz79 (by rfl) (by rfl) (by rfl) (fun w89 (H : Sep ok w w89 [.blk b1 79 [.slice none 0 0, .slice none 0 0], .blk b3 82 [.int .i64 0, .int .i64 0, .int .i64 0, .int .i64 0, .int .i64 0, .int .i64 0], .blk b5 79 [.slice A49 v47.1.Arena.Slots.length cp50, .slice A52 v47.1.Kids.length cp53], .blk b7 82 [.int .i64 v10.2.1.Slot, .int .i64 v10.2.1.Gen, .int .i64 v27.2.1.Slot, .int .i64 v27.2.1.Gen, .int .i64 v47.2.1.Slot, .int .i64 v47.2.1.Gen], .blk b18 79 [.slice A12 v10.1.Arena.Slots.length cp13, .slice A15 v10.1.Kids.length cp16], .blk b20 81 [.int .i64 v10.2.1.Slot, .int .i64 v10.2.1.Gen], .blk b35 79 [.slice A29 v27.1.Arena.Slots.length cp30, .slice A32 v27.1.Kids.length cp33], .blk b37 81 [.int .i64 v27.2.1.Slot, .int .i64 v27.2.1.Gen], .blk b55 79 [.slice A49 v47.1.Arena.Slots.length cp50, .slice A52 v47.1.Kids.length cp53], .blk b57 81 [.int .i64 v47.2.1.Slot, .int .i64 v47.2.1.Gen], .blk b75 79 [.slice A69 v67.1.Arena.Slots.length cp70, .slice A72 v67.1.Kids.length cp73], .blk b87 79 [.slice A81 v79.1.Arena.Slots.length cp82, .slice A84 v79.1.Kids.length cp85]] [RE.rd k_Slot A12 cp13 v10.1.Arena.Slots, RE.rd (Kd.slice k_Handle) A15 cp16 v10.1.Kids, RE.rd k_Slot A29 cp30 v27.1.Arena.Slots, RE.rd (Kd.slice k_Handle) A32 cp33 v27.1.Kids, RE.rd k_Slot A49 cp50 v47.1.Arena.Slots, RE.rd (Kd.slice k_Handle) A52 cp53 v47.1.Kids, RE.rd k_Slot A69 cp70 v67.1.Arena.Slots, RE.rd (Kd.slice k_Handle) A72 cp73 v67.1.Kids, RE.rd k_Slot A81 cp82 v79.1.Arena.Slots, RE.rd (Kd.slice k_Handle) A84 cp85 v79.1.Kids]) => ?_))
   refine RL_pure (by exact wn0 rfl) (by rfl) (by rfl) (x_assign (v := .int .i64 v79.2) (by rfl)) ?_
   refine RL_nil ?_
   refine W_seq ?_
   refine W_region ?_
   refine RL_pure (by exact wn0 rfl) (by rfl) (by rfl) (x_loadA (j := 0) (vs := [.slice A81 v79.1.Arena.Slots.length cp82, .slice A84 v79.1.Kids.length cp85]) ag79 (by rfl) (H.cells (i := 11) (by rfl)) (by rfl) (by rfl)) ?_
   refine RL_pure (by exact wn0 rfl) (by rfl) (by rfl) (x_indexArr ar82 sz81 (by rfl) (by rfl) (by decide) (by decide)) ?_
   refine RL_pure (by exact wn0 rfl) (by rfl) (by rfl) (x_loadA (j := 2) (vs := [.int .i64 v27.2.1.Slot, .int .i64 v27.2.1.Gen]) ag81 (by rfl) (H.cells (i := 3) (by rfl)) (by rfl) (by rfl)) ?_
   refine RL_pure (by exact wn0 rfl) (by rfl) (by rfl) (x_indexArr ar82 sz81 (by rfl) (by rfl) (by decide) (by decide)) ?_
   refine RL_pure (by exact wn0 rfl) (by rfl) (by rfl) (x_loadA (j := 4) (vs := [.int .i64 v47.2.1.Slot, .int .i64 v47.2.1.Gen]) ag81 (by rfl) (H.cells (i := 3) (by rfl)) (by rfl) (by rfl)) ?_
   obtain ⟨v91, hv90, hm⟩ := bind_some hm
   refine RL_cons (O_call (by exact wn0 rfl) (by rfl) (by rfl) (x_callL (by rfl) (args := [.agg #[.slice A81 v79.1.Arena.Slots.length cp82, .slice A84 v79.1.Kids.length cp85], .agg #[.int .i64 v27.2.1.Slot, .int .i64 v27.2.1.Gen], .agg #[.int .i64 v47.2.1.Slot, .int .i64 v47.2.1.Gen], .int .i64 0]) (by rfl) (cf38 _ _)) (c38 (okS ok w [.blk b1 79 [.slice none 0 0, .slice none 0 0], .blk b3 82 [.int .i64 0, .int .i64 0, .int .i64 0, .int .i64 0, .int .i64 0, .int .i64 0], .blk b5 79 [.slice A49 v47.1.Arena.Slots.length cp50, .slice A52 v47.1.Kids.length cp53], .blk b7 82 [.int .i64 v10.2.1.Slot, .int .i64 v10.2.1.Gen, .int .i64 v27.2.1.Slot, .int .i64 v27.2.1.Gen, .int .i64 v47.2.1.Slot, .int .i64 v47.2.1.Gen], .blk b18 79 [.slice A12 v10.1.Arena.Slots.length cp13, .slice A15 v10.1.Kids.length cp16], .blk b20 81 [.int .i64 v10.2.1.Slot, .int .i64 v10.2.1.Gen], .blk b35 79 [.slice A29 v27.1.Arena.Slots.length cp30, .slice A32 v27.1.Kids.length cp33], .blk b37 81 [.int .i64 v27.2.1.Slot, .int .i64 v27.2.1.Gen], .blk b55 79 [.slice A49 v47.1.Arena.Slots.length cp50, .slice A52 v47.1.Kids.length cp53], .blk b57 81 [.int .i64 v47.2.1.Slot, .int .i64 v47.2.1.Gen], .blk b75 79 [.slice A69 v67.1.Arena.Slots.length cp70, .slice A72 v67.1.Kids.length cp73], .blk b87 79 [.slice A81 v79.1.Arena.Slots.length cp82, .slice A84 v79.1.Kids.length cp85]]) K w89 v79.1 A81 cp82 A84 cp85 v27.2.1 v47.2.1 0 (H.rd (i := 8) (by rfl)) (H.rd (i := 9) (by rfl)) v91 hv90) ?_)
   rintro e w92 ⟨A93, cp94, A96, cp97, rfl, H2⟩
   have H : Sep ok w w92 [.blk b1 79 [.slice none 0 0, .slice none 0 0], .blk b3 82 [.int .i64 0, .int .i64 0, .int .i64 0, .int .i64 0, .int .i64 0, .int .i64 0], .blk b5 79 [.slice A49 v47.1.Arena.Slots.length cp50, .slice A52 v47.1.Kids.length cp53], .blk b7 82 [.int .i64 v10.2.1.Slot, .int .i64 v10.2.1.Gen, .int .i64 v27.2.1.Slot, .int .i64 v27.2.1.Gen, .int .i64 v47.2.1.Slot, .int .i64 v47.2.1.Gen], .blk b18 79 [.slice A12 v10.1.Arena.Slots.length cp13, .slice A15 v10.1.Kids.length cp16], .blk b20 81 [.int .i64 v10.2.1.Slot, .int .i64 v10.2.1.Gen], .blk b35 79 [.slice A29 v27.1.Arena.Slots.length cp30, .slice A32 v27.1.Kids.length cp33], .blk b37 81 [.int .i64 v27.2.1.Slot, .int .i64 v27.2.1.Gen], .blk b55 79 [.slice A49 v47.1.Arena.Slots.length cp50, .slice A52 v47.1.Kids.length cp53], .blk b57 81 [.int .i64 v47.2.1.Slot, .int .i64 v47.2.1.Gen], .blk b75 79 [.slice A69 v67.1.Arena.Slots.length cp70, .slice A72 v67.1.Kids.length cp73], .blk b87 79 [.slice A81 v79.1.Arena.Slots.length cp82, .slice A84 v79.1.Kids.length cp85]] [RE.rd k_Slot A12 cp13 v10.1.Arena.Slots, RE.rd (Kd.slice k_Handle) A15 cp16 v10.1.Kids, RE.rd k_Slot A29 cp30 v27.1.Arena.Slots, RE.rd (Kd.slice k_Handle) A32 cp33 v27.1.Kids, RE.rd k_Slot A49 cp50 v47.1.Arena.Slots, RE.rd (Kd.slice k_Handle) A52 cp53 v47.1.Kids, RE.rd k_Slot A69 cp70 v67.1.Arena.Slots, RE.rd (Kd.slice k_Handle) A72 cp73 v67.1.Kids, RE.rd k_Slot A81 cp82 v79.1.Arena.Slots, RE.rd (Kd.slice k_Handle) A84 cp85 v79.1.Kids, RE.rd k_Slot A93 cp94 v91.1.Arena.Slots, RE.rd (Kd.slice k_Handle) A96 cp97 v91.1.Kids] := H.call H2
   clear H2
   refine ⟨_, rfl, ?_⟩
   show RL _ _ _ _ _ _ _
   refine RL_pure (by exact wn0 rfl) (by rfl) (by rfl) (x_move (v := tup [.agg #[.slice A93 v91.1.Arena.Slots.length cp94, .slice A96 v91.1.Kids.length cp97], .int .i64 v91.2]) (by rfl)) ?_
   refine RL_pure (by exact wn0 rfl) (by rfl) (by rfl) (x_extract (v := .agg #[.slice A93 v91.1.Arena.Slots.length cp94, .slice A96 v91.1.Kids.length cp97]) (by rfl) (by rfl)) ?_
   refine RL_pure (by exact wn0 rfl) (by rfl) (by rfl) (x_extract (v := .int .i64 v91.2) (by rfl) (by rfl)) ?_
   refine RL_cons (O_alloc (by exact wn0 rfl) (by rfl) ze79 (by rfl) H (fun w100 b99 (H : Sep ok w w100 [.blk b1 79 [.slice none 0 0, .slice none 0 0], .blk b3 82 [.int .i64 0, .int .i64 0, .int .i64 0, .int .i64 0, .int .i64 0, .int .i64 0], .blk b5 79 [.slice A49 v47.1.Arena.Slots.length cp50, .slice A52 v47.1.Kids.length cp53], .blk b7 82 [.int .i64 v10.2.1.Slot, .int .i64 v10.2.1.Gen, .int .i64 v27.2.1.Slot, .int .i64 v27.2.1.Gen, .int .i64 v47.2.1.Slot, .int .i64 v47.2.1.Gen], .blk b18 79 [.slice A12 v10.1.Arena.Slots.length cp13, .slice A15 v10.1.Kids.length cp16], .blk b20 81 [.int .i64 v10.2.1.Slot, .int .i64 v10.2.1.Gen], .blk b35 79 [.slice A29 v27.1.Arena.Slots.length cp30, .slice A32 v27.1.Kids.length cp33], .blk b37 81 [.int .i64 v27.2.1.Slot, .int .i64 v27.2.1.Gen], .blk b55 79 [.slice A49 v47.1.Arena.Slots.length cp50, .slice A52 v47.1.Kids.length cp53], .blk b57 81 [.int .i64 v47.2.1.Slot, .int .i64 v47.2.1.Gen], .blk b75 79 [.slice A69 v67.1.Arena.Slots.length cp70, .slice A72 v67.1.Kids.length cp73], .blk b87 79 [.slice A81 v79.1.Arena.Slots.length cp82, .slice A84 v79.1.Kids.length cp85], .blk b99 79 [.slice none 0 0, .slice none 0 0]] [RE.rd k_Slot A12 cp13 v10.1.Arena.Slots, RE.rd (Kd.slice k_Handle) A15 cp16 v10.1.Kids, RE.rd k_Slot A29 cp30 v27.1.Arena.Slots, RE.rd (Kd.slice k_Handle) A32 cp33 v27.1.Kids, RE.rd k_Slot A49 cp50 v47.1.Arena.Slots, RE.rd (Kd.slice k_Handle) A52 cp53 v47.1.Kids, RE.rd k_Slot A69 cp70 v67.1.Arena.Slots, RE.rd (Kd.slice k_Handle) A72 cp73 v67.1.Kids, RE.rd k_Slot A81 cp82 v79.1.Arena.Slots, RE.rd (Kd.slice k_Handle) A84 cp85 v79.1.Kids, RE.rd k_Slot A93 cp94 v91.1.Arena.Slots, RE.rd (Kd.slice k_Handle) A96 cp97 v91.1.Kids]) => ?_))
   refine RL_cons (O_store (i := 12) (off := 0) (by exact wn0 rfl) (by rfl) (by rfl) H (by rfl) (vs := [.slice A93 v91.1.Arena.Slots.length cp94, .slice A96 v91.1.Kids.length cp97]) (by rfl) sz79 (by rfl) (by rfl) (by rfl) (fun w101 (H : Sep ok w w101 [.blk b1 79 [.slice none 0 0, .slice none 0 0], .blk b3 82 [.int .i64 0, .int .i64 0, .int .i64 0, .int .i64 0, .int .i64 0, .int .i64 0], .blk b5 79 [.slice A49 v47.1.Arena.Slots.length cp50, .slice A52 v47.1.Kids.length cp53], .blk b7 82 [.int .i64 v10.2.1.Slot, .int .i64 v10.2.1.Gen, .int .i64 v27.2.1.Slot, .int .i64 v27.2.1.Gen, .int .i64 v47.2.1.Slot, .int .i64 v47.2.1.Gen], .blk b18 79 [.slice A12 v10.1.Arena.Slots.length cp13, .slice A15 v10.1.Kids.length cp16], .blk b20 81 [.int .i64 v10.2.1.Slot, .int .i64 v10.2.1.Gen], .blk b35 79 [.slice A29 v27.1.Arena.Slots.length cp30, .slice A32 v27.1.Kids.length cp33], .blk b37 81 [.int .i64 v27.2.1.Slot, .int .i64 v27.2.1.Gen], .blk b55 79 [.slice A49 v47.1.Arena.Slots.length cp50, .slice A52 v47.1.Kids.length cp53], .blk b57 81 [.int .i64 v47.2.1.Slot, .int .i64 v47.2.1.Gen], .blk b75 79 [.slice A69 v67.1.Arena.Slots.length cp70, .slice A72 v67.1.Kids.length cp73], .blk b87 79 [.slice A81 v79.1.Arena.Slots.length cp82, .slice A84 v79.1.Kids.length cp85], .blk b99 79 [.slice A93 v91.1.Arena.Slots.length cp94, .slice A96 v91.1.Kids.length cp97]] [RE.rd k_Slot A12 cp13 v10.1.Arena.Slots, RE.rd (Kd.slice k_Handle) A15 cp16 v10.1.Kids, RE.rd k_Slot A29 cp30 v27.1.Arena.Slots, RE.rd (Kd.slice k_Handle) A32 cp33 v27.1.Kids, RE.rd k_Slot A49 cp50 v47.1.Arena.Slots, RE.rd (Kd.slice k_Handle) A52 cp53 v47.1.Kids, RE.rd k_Slot A69 cp70 v67.1.Arena.Slots, RE.rd (Kd.slice k_Handle) A72 cp73 v67.1.Kids, RE.rd k_Slot A81 cp82 v79.1.Arena.Slots, RE.rd (Kd.slice k_Handle) A84 cp85 v79.1.Kids, RE.rd k_Slot A93 cp94 v91.1.Arena.Slots, RE.rd (Kd.slice k_Handle) A96 cp97 v91.1.Kids]) => ?_))
   refine RL_pure (by exact wn0 rfl) (by rfl) (by rfl) (x_assign (v := .int .i64 v91.2) (by rfl)) ?_
   refine RL_nil ?_
   refine W_seq ?_
   refine W_draw [.take 0, .take 1, .free 2, .free 3, .free 4, .free 5, .free 6, .free 7, .free 8, .free 9, .free 10, .free 11, .free 12, .free 13, .free 14, .run 15, .tail 16, .free 17] (fun wS => Sep ok w wS [.hole, .blk b3 82 [.int .i64 0, .int .i64 0, .int .i64 0, .int .i64 0, .int .i64 0, .int .i64 0], .blk b5 79 [.slice A49 v47.1.Arena.Slots.length cp50, .slice A52 v47.1.Kids.length cp53], .blk b7 82 [.int .i64 v10.2.1.Slot, .int .i64 v10.2.1.Gen, .int .i64 v27.2.1.Slot, .int .i64 v27.2.1.Gen, .int .i64 v47.2.1.Slot, .int .i64 v47.2.1.Gen], .blk b18 79 [.slice A12 v10.1.Arena.Slots.length cp13, .slice A15 v10.1.Kids.length cp16], .blk b20 81 [.int .i64 v10.2.1.Slot, .int .i64 v10.2.1.Gen], .blk b35 79 [.slice A29 v27.1.Arena.Slots.length cp30, .slice A32 v27.1.Kids.length cp33], .blk b37 81 [.int .i64 v27.2.1.Slot, .int .i64 v27.2.1.Gen], .blk b55 79 [.slice A49 v47.1.Arena.Slots.length cp50, .slice A52 v47.1.Kids.length cp53], .blk b57 81 [.int .i64 v47.2.1.Slot, .int .i64 v47.2.1.Gen], .blk b75 79 [.slice A69 v67.1.Arena.Slots.length cp70, .slice A72 v67.1.Kids.length cp73], .blk b87 79 [.slice A81 v79.1.Arena.Slots.length cp82, .slice A84 v79.1.Kids.length cp85], .blk b99 79 [.slice A93 v91.1.Arena.Slots.length cp94, .slice A96 v91.1.Kids.length cp97]] [RE.rd k_Slot A12 cp13 v10.1.Arena.Slots, RE.rd (Kd.slice k_Handle) A15 cp16 v10.1.Kids, RE.rd k_Slot A29 cp30 v27.1.Arena.Slots, RE.rd (Kd.slice k_Handle) A32 cp33 v27.1.Kids, RE.rd k_Slot A49 cp50 v47.1.Arena.Slots, RE.rd (Kd.slice k_Handle) A52 cp53 v47.1.Kids, RE.rd k_Slot A69 cp70 v67.1.Arena.Slots, RE.rd (Kd.slice k_Handle) A72 cp73 v67.1.Kids, RE.rd k_Slot A81 cp82 v79.1.Arena.Slots, RE.rd (Kd.slice k_Handle) A84 cp85 v79.1.Kids, RE.rd k_Slot A93 cp94 v91.1.Arena.Slots, RE.rd (Kd.slice k_Handle) A96 cp97 v91.1.Kids]) [16] [2, 3, 4, 5, 6, 7, 8, 9, 10, 11, 12, 13, 14, 17] mixed0 (by kernel_rfl) (by kernel_rfl) (by kernel_rfl) (by rfl) (by exact (Sep.holeL H.drew 0)) ?_
   obtain ⟨w102, hW⟩ : ∃ W : World, W = { w101 with drawn := w101.drawn + 1 } := ⟨_, rfl⟩
   rw [← hW]
   have H : Sep ok w w102 [.blk b1 79 [.slice none 0 0, .slice none 0 0], .blk b3 82 [.int .i64 0, .int .i64 0, .int .i64 0, .int .i64 0, .int .i64 0, .int .i64 0], .blk b5 79 [.slice A49 v47.1.Arena.Slots.length cp50, .slice A52 v47.1.Kids.length cp53], .blk b7 82 [.int .i64 v10.2.1.Slot, .int .i64 v10.2.1.Gen, .int .i64 v27.2.1.Slot, .int .i64 v27.2.1.Gen, .int .i64 v47.2.1.Slot, .int .i64 v47.2.1.Gen], .blk b18 79 [.slice A12 v10.1.Arena.Slots.length cp13, .slice A15 v10.1.Kids.length cp16], .blk b20 81 [.int .i64 v10.2.1.Slot, .int .i64 v10.2.1.Gen], .blk b35 79 [.slice A29 v27.1.Arena.Slots.length cp30, .slice A32 v27.1.Kids.length cp33], .blk b37 81 [.int .i64 v27.2.1.Slot, .int .i64 v27.2.1.Gen], .blk b55 79 [.slice A49 v47.1.Arena.Slots.length cp50, .slice A52 v47.1.Kids.length cp53], .blk b57 81 [.int .i64 v47.2.1.Slot, .int .i64 v47.2.1.Gen], .blk b75 79 [.slice A69 v67.1.Arena.Slots.length cp70, .slice A72 v67.1.Kids.length cp73], .blk b87 79 [.slice A81 v79.1.Arena.Slots.length cp82, .slice A84 v79.1.Kids.length cp85], .blk b99 79 [.slice A93 v91.1.Arena.Slots.length cp94, .slice A96 v91.1.Kids.length cp97]] [RE.rd k_Slot A12 cp13 v10.1.Arena.Slots, RE.rd (Kd.slice k_Handle) A15 cp16 v10.1.Kids, RE.rd k_Slot A29 cp30 v27.1.Arena.Slots, RE.rd (Kd.slice k_Handle) A32 cp33 v27.1.Kids, RE.rd k_Slot A49 cp50 v47.1.Arena.Slots, RE.rd (Kd.slice k_Handle) A52 cp53 v47.1.Kids, RE.rd k_Slot A69 cp70 v67.1.Arena.Slots, RE.rd (Kd.slice k_Handle) A72 cp73 v67.1.Kids, RE.rd k_Slot A81 cp82 v79.1.Arena.Slots, RE.rd (Kd.slice k_Handle) A84 cp85 v79.1.Kids, RE.rd k_Slot A93 cp94 v91.1.Arena.Slots, RE.rd (Kd.slice k_Handle) A96 cp97 v91.1.Kids] := by rw [hW]; exact H.drew
   clear hW
   refine PR_take (by rfl) (by rfl) (by rfl) (by exact wn0 rfl) (fun wS (H : Sep ok w wS [.hole, .blk b3 82 [.int .i64 0, .int .i64 0, .int .i64 0, .int .i64 0, .int .i64 0, .int .i64 0], .blk b5 79 [.slice A49 v47.1.Arena.Slots.length cp50, .slice A52 v47.1.Kids.length cp53], .blk b7 82 [.int .i64 v10.2.1.Slot, .int .i64 v10.2.1.Gen, .int .i64 v27.2.1.Slot, .int .i64 v27.2.1.Gen, .int .i64 v47.2.1.Slot, .int .i64 v47.2.1.Gen], .blk b18 79 [.slice A12 v10.1.Arena.Slots.length cp13, .slice A15 v10.1.Kids.length cp16], .blk b20 81 [.int .i64 v10.2.1.Slot, .int .i64 v10.2.1.Gen], .blk b35 79 [.slice A29 v27.1.Arena.Slots.length cp30, .slice A32 v27.1.Kids.length cp33], .blk b37 81 [.int .i64 v27.2.1.Slot, .int .i64 v27.2.1.Gen], .blk b55 79 [.slice A49 v47.1.Arena.Slots.length cp50, .slice A52 v47.1.Kids.length cp53], .blk b57 81 [.int .i64 v47.2.1.Slot, .int .i64 v47.2.1.Gen], .blk b75 79 [.slice A69 v67.1.Arena.Slots.length cp70, .slice A72 v67.1.Kids.length cp73], .blk b87 79 [.slice A81 v79.1.Arena.Slots.length cp82, .slice A84 v79.1.Kids.length cp85], .blk b99 79 [.slice A93 v91.1.Arena.Slots.length cp94, .slice A96 v91.1.Kids.length cp97]] [RE.rd k_Slot A12 cp13 v10.1.Arena.Slots, RE.rd (Kd.slice k_Handle) A15 cp16 v10.1.Kids, RE.rd k_Slot A29 cp30 v27.1.Arena.Slots, RE.rd (Kd.slice k_Handle) A32 cp33 v27.1.Kids, RE.rd k_Slot A49 cp50 v47.1.Arena.Slots, RE.rd (Kd.slice k_Handle) A52 cp53 v47.1.Kids, RE.rd k_Slot A69 cp70 v67.1.Arena.Slots, RE.rd (Kd.slice k_Handle) A72 cp73 v67.1.Kids, RE.rd k_Slot A81 cp82 v79.1.Arena.Slots, RE.rd (Kd.slice k_Handle) A84 cp85 v79.1.Kids, RE.rd k_Slot A93 cp94 v91.1.Arena.Slots, RE.rd (Kd.slice k_Handle) A96 cp97 v91.1.Kids]) => (x_loadA (j := 0) (vs := [.slice A93 v91.1.Arena.Slots.length cp94, .slice A96 v91.1.Kids.length cp97]) ag79 (by rfl) (H.cells (i := 12) (by rfl)) (by rfl) (by rfl))) ?_
   refine PR_take (by rfl) (by rfl) (by rfl) (by exact wn0 rfl) (fun wS (H : Sep ok w wS [.hole, .blk b3 82 [.int .i64 0, .int .i64 0, .int .i64 0, .int .i64 0, .int .i64 0, .int .i64 0], .blk b5 79 [.slice A49 v47.1.Arena.Slots.length cp50, .slice A52 v47.1.Kids.length cp53], .blk b7 82 [.int .i64 v10.2.1.Slot, .int .i64 v10.2.1.Gen, .int .i64 v27.2.1.Slot, .int .i64 v27.2.1.Gen, .int .i64 v47.2.1.Slot, .int .i64 v47.2.1.Gen], .blk b18 79 [.slice A12 v10.1.Arena.Slots.length cp13, .slice A15 v10.1.Kids.length cp16], .blk b20 81 [.int .i64 v10.2.1.Slot, .int .i64 v10.2.1.Gen], .blk b35 79 [.slice A29 v27.1.Arena.Slots.length cp30, .slice A32 v27.1.Kids.length cp33], .blk b37 81 [.int .i64 v27.2.1.Slot, .int .i64 v27.2.1.Gen], .blk b55 79 [.slice A49 v47.1.Arena.Slots.length cp50, .slice A52 v47.1.Kids.length cp53], .blk b57 81 [.int .i64 v47.2.1.Slot, .int .i64 v47.2.1.Gen], .blk b75 79 [.slice A69 v67.1.Arena.Slots.length cp70, .slice A72 v67.1.Kids.length cp73], .blk b87 79 [.slice A81 v79.1.Arena.Slots.length cp82, .slice A84 v79.1.Kids.length cp85], .blk b99 79 [.slice A93 v91.1.Arena.Slots.length cp94, .slice A96 v91.1.Kids.length cp97]] [RE.rd k_Slot A12 cp13 v10.1.Arena.Slots, RE.rd (Kd.slice k_Handle) A15 cp16 v10.1.Kids, RE.rd k_Slot A29 cp30 v27.1.Arena.Slots, RE.rd (Kd.slice k_Handle) A32 cp33 v27.1.Kids, RE.rd k_Slot A49 cp50 v47.1.Arena.Slots, RE.rd (Kd.slice k_Handle) A52 cp53 v47.1.Kids, RE.rd k_Slot A69 cp70 v67.1.Arena.Slots, RE.rd (Kd.slice k_Handle) A72 cp73 v67.1.Kids, RE.rd k_Slot A81 cp82 v79.1.Arena.Slots, RE.rd (Kd.slice k_Handle) A84 cp85 v79.1.Kids, RE.rd k_Slot A93 cp94 v91.1.Arena.Slots, RE.rd (Kd.slice k_Handle) A96 cp97 v91.1.Kids]) => (x_loadA (j := 0) (vs := [.int .i64 v10.2.1.Slot, .int .i64 v10.2.1.Gen, .int .i64 v27.2.1.Slot, .int .i64 v27.2.1.Gen, .int .i64 v47.2.1.Slot, .int .i64 v47.2.1.Gen]) ag82 (by rfl) (H.cells (i := 3) (by rfl)) (by rfl) (by rfl))) ?_
   refine PR_free (by rfl) (by rfl) (by rfl) (by exact wn0 rfl) (fun wS => (x_move (v := .bool b61) (by rfl))) ?_
   refine PR_free (by rfl) (by rfl) (by rfl) (by exact wn0 rfl) (fun wS => (x_move (v := .bool b61) (by rfl))) ?_
   obtain ⟨b103, hmS, hm⟩ := bind_some hm
   refine PR_cut 3 (fun r' w' => Agr [(68, .bool b103), (0, .pointer (some ⟨b1, 0, none⟩)), (1, .pointer (some ⟨b3, 0, none⟩)), (13, .int .i64 v79.2), (15, .int .i64 v91.2), (62, .agg #[.slice A93 v91.1.Arena.Slots.length cp94, .slice A96 v91.1.Kids.length cp97]), (63, .agg #[.int .i64 v10.2.1.Slot, .int .i64 v10.2.1.Gen, .int .i64 v27.2.1.Slot, .int .i64 v27.2.1.Gen, .int .i64 v47.2.1.Slot, .int .i64 v47.2.1.Gen])] r' ∧ Sep ok w w' [.blk b1 79 [.slice none 0 0, .slice none 0 0], .blk b3 82 [.int .i64 0, .int .i64 0, .int .i64 0, .int .i64 0, .int .i64 0, .int .i64 0], .blk b5 79 [.slice A49 v47.1.Arena.Slots.length cp50, .slice A52 v47.1.Kids.length cp53], .blk b7 82 [.int .i64 v10.2.1.Slot, .int .i64 v10.2.1.Gen, .int .i64 v27.2.1.Slot, .int .i64 v27.2.1.Gen, .int .i64 v47.2.1.Slot, .int .i64 v47.2.1.Gen], .blk b18 79 [.slice A12 v10.1.Arena.Slots.length cp13, .slice A15 v10.1.Kids.length cp16], .blk b20 81 [.int .i64 v10.2.1.Slot, .int .i64 v10.2.1.Gen], .blk b35 79 [.slice A29 v27.1.Arena.Slots.length cp30, .slice A32 v27.1.Kids.length cp33], .blk b37 81 [.int .i64 v27.2.1.Slot, .int .i64 v27.2.1.Gen], .blk b55 79 [.slice A49 v47.1.Arena.Slots.length cp50, .slice A52 v47.1.Kids.length cp53], .blk b57 81 [.int .i64 v47.2.1.Slot, .int .i64 v47.2.1.Gen], .blk b75 79 [.slice A69 v67.1.Arena.Slots.length cp70, .slice A72 v67.1.Kids.length cp73], .blk b87 79 [.slice A81 v79.1.Arena.Slots.length cp82, .slice A84 v79.1.Kids.length cp85], .blk b99 79 [.slice A93 v91.1.Arena.Slots.length cp94, .slice A96 v91.1.Kids.length cp97]] [RE.rd k_Slot A12 cp13 v10.1.Arena.Slots, RE.rd (Kd.slice k_Handle) A15 cp16 v10.1.Kids, RE.rd k_Slot A29 cp30 v27.1.Arena.Slots, RE.rd (Kd.slice k_Handle) A32 cp33 v27.1.Kids, RE.rd k_Slot A49 cp50 v47.1.Arena.Slots, RE.rd (Kd.slice k_Handle) A52 cp53 v47.1.Kids, RE.rd k_Slot A69 cp70 v67.1.Arena.Slots, RE.rd (Kd.slice k_Handle) A72 cp73 v67.1.Kids, RE.rd k_Slot A81 cp82 v79.1.Arena.Slots, RE.rd (Kd.slice k_Handle) A84 cp85 v79.1.Kids, RE.rd k_Slot A93 cp94 v91.1.Arena.Slots, RE.rd (Kd.slice k_Handle) A96 cp97 v91.1.Kids]) ?_ ?_
   ·cases hbS : b61
    ·have hm := cond_f hbS hmS
     refine PR_offF (by rfl) (by rfl) (by rfl) (by exact wn2 rfl rfl rfl rfl) ?_
     refine PR_offF (by rfl) (by rfl) (by rfl) (by exact wn2 rfl rfl rfl rfl) ?_
     refine PR_free (by rfl) (by rfl) (by rfl) (by exact wn0 rfl) (fun wS => (x_pick_f (v := .bool false) (by rfl) (by rfl))) ?_
     refine PR_nil ?_
     exact ⟨⟨congrArg Value.bool (Option.some.inj hm), rfl, rfl, rfl, rfl, rfl, rfl, trivial⟩, H⟩
    ·have hm := cond_t hbS hmS
     refine PR_free (by rfl) (by rfl) (by rfl) (by exact wn1 rfl rfl rfl rfl) (fun wS => (x_move (v := .int .i64 v67.2) (by rfl))) ?_
     refine PR_free (by rfl) (by rfl) (by rfl) (by exact wn1 rfl rfl rfl rfl) (fun wS => (x_eql (by rfl) (by rfl))) ?_
     refine PR_free (by rfl) (by rfl) (by rfl) (by exact wn0 rfl) (fun wS => (x_pick_t (v := .bool (v67.2 == 0)) (by rfl) (by rfl))) ?_
     refine PR_nil ?_
     exact ⟨⟨congrArg Value.bool (Option.some.inj hm), rfl, rfl, rfl, rfl, rfl, rfl, trivial⟩, H⟩
   ·rintro r' w' ⟨hA, H⟩
    obtain ⟨r104, rfl⟩ := regen _ hA; clear hA
    obtain ⟨w105, rfl⟩ : ∃ W : World, W = w' := ⟨_, rfl⟩
    show PR _ _ _ _ _ _ _ _
    refine PR_free (by rfl) (by rfl) (by rfl) (by exact wn0 rfl) (fun wS => (x_move (v := .bool b103) (by rfl))) ?_
    obtain ⟨b106, hmS, hm⟩ := bind_some hm
    refine PR_cut 3 (fun r' w' => Agr [(72, .bool b106), (0, .pointer (some ⟨b1, 0, none⟩)), (1, .pointer (some ⟨b3, 0, none⟩)), (15, .int .i64 v91.2), (62, .agg #[.slice A93 v91.1.Arena.Slots.length cp94, .slice A96 v91.1.Kids.length cp97]), (63, .agg #[.int .i64 v10.2.1.Slot, .int .i64 v10.2.1.Gen, .int .i64 v27.2.1.Slot, .int .i64 v27.2.1.Gen, .int .i64 v47.2.1.Slot, .int .i64 v47.2.1.Gen])] r' ∧ Sep ok w w' [.blk b1 79 [.slice none 0 0, .slice none 0 0], .blk b3 82 [.int .i64 0, .int .i64 0, .int .i64 0, .int .i64 0, .int .i64 0, .int .i64 0], .blk b5 79 [.slice A49 v47.1.Arena.Slots.length cp50, .slice A52 v47.1.Kids.length cp53], .blk b7 82 [.int .i64 v10.2.1.Slot, .int .i64 v10.2.1.Gen, .int .i64 v27.2.1.Slot, .int .i64 v27.2.1.Gen, .int .i64 v47.2.1.Slot, .int .i64 v47.2.1.Gen], .blk b18 79 [.slice A12 v10.1.Arena.Slots.length cp13, .slice A15 v10.1.Kids.length cp16], .blk b20 81 [.int .i64 v10.2.1.Slot, .int .i64 v10.2.1.Gen], .blk b35 79 [.slice A29 v27.1.Arena.Slots.length cp30, .slice A32 v27.1.Kids.length cp33], .blk b37 81 [.int .i64 v27.2.1.Slot, .int .i64 v27.2.1.Gen], .blk b55 79 [.slice A49 v47.1.Arena.Slots.length cp50, .slice A52 v47.1.Kids.length cp53], .blk b57 81 [.int .i64 v47.2.1.Slot, .int .i64 v47.2.1.Gen], .blk b75 79 [.slice A69 v67.1.Arena.Slots.length cp70, .slice A72 v67.1.Kids.length cp73], .blk b87 79 [.slice A81 v79.1.Arena.Slots.length cp82, .slice A84 v79.1.Kids.length cp85], .blk b99 79 [.slice A93 v91.1.Arena.Slots.length cp94, .slice A96 v91.1.Kids.length cp97]] [RE.rd k_Slot A12 cp13 v10.1.Arena.Slots, RE.rd (Kd.slice k_Handle) A15 cp16 v10.1.Kids, RE.rd k_Slot A29 cp30 v27.1.Arena.Slots, RE.rd (Kd.slice k_Handle) A32 cp33 v27.1.Kids, RE.rd k_Slot A49 cp50 v47.1.Arena.Slots, RE.rd (Kd.slice k_Handle) A52 cp53 v47.1.Kids, RE.rd k_Slot A69 cp70 v67.1.Arena.Slots, RE.rd (Kd.slice k_Handle) A72 cp73 v67.1.Kids, RE.rd k_Slot A81 cp82 v79.1.Arena.Slots, RE.rd (Kd.slice k_Handle) A84 cp85 v79.1.Kids, RE.rd k_Slot A93 cp94 v91.1.Arena.Slots, RE.rd (Kd.slice k_Handle) A96 cp97 v91.1.Kids]) ?_ ?_
    ·cases hbS : b103
     ·have hm := cond_f hbS hmS
      refine PR_offF (by rfl) (by rfl) (by rfl) (by exact wn2 rfl rfl rfl rfl) ?_
      refine PR_offF (by rfl) (by rfl) (by rfl) (by exact wn2 rfl rfl rfl rfl) ?_
      refine PR_free (by rfl) (by rfl) (by rfl) (by exact wn0 rfl) (fun wS => (x_pick_f (v := .bool false) (by rfl) (by rfl))) ?_
      refine PR_nil ?_
      exact ⟨⟨congrArg Value.bool (Option.some.inj hm), rfl, rfl, rfl, rfl, rfl, trivial⟩, H⟩
     ·have hm := cond_t hbS hmS
      refine PR_free (by rfl) (by rfl) (by rfl) (by exact wn1 rfl rfl rfl rfl) (fun wS => (x_move (v := .int .i64 v79.2) (by rfl))) ?_
      refine PR_free (by rfl) (by rfl) (by rfl) (by exact wn1 rfl rfl rfl rfl) (fun wS => (x_eql (by rfl) (by rfl))) ?_
      refine PR_free (by rfl) (by rfl) (by rfl) (by exact wn0 rfl) (fun wS => (x_pick_t (v := .bool (v79.2 == 0)) (by rfl) (by rfl))) ?_
      refine PR_nil ?_
      exact ⟨⟨congrArg Value.bool (Option.some.inj hm), rfl, rfl, rfl, rfl, rfl, trivial⟩, H⟩
    ·rintro r' w' ⟨hA, H⟩
     obtain ⟨r107, rfl⟩ := regen _ hA; clear hA
     obtain ⟨w108, rfl⟩ : ∃ W : World, W = w' := ⟨_, rfl⟩
     show PR _ _ _ _ _ _ _ _
     refine PR_free (by rfl) (by rfl) (by rfl) (by exact wn0 rfl) (fun wS => (x_move (v := .bool b106) (by rfl))) ?_
     obtain ⟨b109, hmS, hm⟩ := bind_some hm
     refine PR_cut 3 (fun r' w' => Agr [(76, .bool b109), (0, .pointer (some ⟨b1, 0, none⟩)), (1, .pointer (some ⟨b3, 0, none⟩)), (62, .agg #[.slice A93 v91.1.Arena.Slots.length cp94, .slice A96 v91.1.Kids.length cp97]), (63, .agg #[.int .i64 v10.2.1.Slot, .int .i64 v10.2.1.Gen, .int .i64 v27.2.1.Slot, .int .i64 v27.2.1.Gen, .int .i64 v47.2.1.Slot, .int .i64 v47.2.1.Gen])] r' ∧ Sep ok w w' [.blk b1 79 [.slice none 0 0, .slice none 0 0], .blk b3 82 [.int .i64 0, .int .i64 0, .int .i64 0, .int .i64 0, .int .i64 0, .int .i64 0], .blk b5 79 [.slice A49 v47.1.Arena.Slots.length cp50, .slice A52 v47.1.Kids.length cp53], .blk b7 82 [.int .i64 v10.2.1.Slot, .int .i64 v10.2.1.Gen, .int .i64 v27.2.1.Slot, .int .i64 v27.2.1.Gen, .int .i64 v47.2.1.Slot, .int .i64 v47.2.1.Gen], .blk b18 79 [.slice A12 v10.1.Arena.Slots.length cp13, .slice A15 v10.1.Kids.length cp16], .blk b20 81 [.int .i64 v10.2.1.Slot, .int .i64 v10.2.1.Gen], .blk b35 79 [.slice A29 v27.1.Arena.Slots.length cp30, .slice A32 v27.1.Kids.length cp33], .blk b37 81 [.int .i64 v27.2.1.Slot, .int .i64 v27.2.1.Gen], .blk b55 79 [.slice A49 v47.1.Arena.Slots.length cp50, .slice A52 v47.1.Kids.length cp53], .blk b57 81 [.int .i64 v47.2.1.Slot, .int .i64 v47.2.1.Gen], .blk b75 79 [.slice A69 v67.1.Arena.Slots.length cp70, .slice A72 v67.1.Kids.length cp73], .blk b87 79 [.slice A81 v79.1.Arena.Slots.length cp82, .slice A84 v79.1.Kids.length cp85], .blk b99 79 [.slice A93 v91.1.Arena.Slots.length cp94, .slice A96 v91.1.Kids.length cp97]] [RE.rd k_Slot A12 cp13 v10.1.Arena.Slots, RE.rd (Kd.slice k_Handle) A15 cp16 v10.1.Kids, RE.rd k_Slot A29 cp30 v27.1.Arena.Slots, RE.rd (Kd.slice k_Handle) A32 cp33 v27.1.Kids, RE.rd k_Slot A49 cp50 v47.1.Arena.Slots, RE.rd (Kd.slice k_Handle) A52 cp53 v47.1.Kids, RE.rd k_Slot A69 cp70 v67.1.Arena.Slots, RE.rd (Kd.slice k_Handle) A72 cp73 v67.1.Kids, RE.rd k_Slot A81 cp82 v79.1.Arena.Slots, RE.rd (Kd.slice k_Handle) A84 cp85 v79.1.Kids, RE.rd k_Slot A93 cp94 v91.1.Arena.Slots, RE.rd (Kd.slice k_Handle) A96 cp97 v91.1.Kids]) ?_ ?_
     ·cases hbS : b106
      ·have hm := cond_f hbS hmS
       refine PR_offF (by rfl) (by rfl) (by rfl) (by exact wn2 rfl rfl rfl rfl) ?_
       refine PR_offF (by rfl) (by rfl) (by rfl) (by exact wn2 rfl rfl rfl rfl) ?_
       refine PR_free (by rfl) (by rfl) (by rfl) (by exact wn0 rfl) (fun wS => (x_pick_f (v := .bool false) (by rfl) (by rfl))) ?_
       refine PR_nil ?_
       exact ⟨⟨congrArg Value.bool (Option.some.inj hm), rfl, rfl, rfl, rfl, trivial⟩, H⟩
      ·have hm := cond_t hbS hmS
       refine PR_free (by rfl) (by rfl) (by rfl) (by exact wn1 rfl rfl rfl rfl) (fun wS => (x_move (v := .int .i64 v91.2) (by rfl))) ?_
       refine PR_free (by rfl) (by rfl) (by rfl) (by exact wn1 rfl rfl rfl rfl) (fun wS => (x_eql (by rfl) (by rfl))) ?_
       refine PR_free (by rfl) (by rfl) (by rfl) (by exact wn0 rfl) (fun wS => (x_pick_t (v := .bool (v91.2 == 0)) (by rfl) (by rfl))) ?_
       refine PR_nil ?_
       exact ⟨⟨congrArg Value.bool (Option.some.inj hm), rfl, rfl, rfl, rfl, trivial⟩, H⟩
     ·rintro r' w' ⟨hA, H⟩
      obtain ⟨r110, rfl⟩ := regen _ hA; clear hA
      obtain ⟨w111, rfl⟩ : ∃ W : World, W = w' := ⟨_, rfl⟩
      show PR _ _ _ _ _ _ _ _
      refine PR_run (by rfl) (O_store (i := 0) (off := 0) (by exact wn0 rfl) (by rfl) (by rfl) H (by rfl) (vs := [.slice A93 v91.1.Arena.Slots.length cp94, .slice A96 v91.1.Kids.length cp97]) (by rfl) sz79 (by rfl) (by rfl) (by rfl) (fun w112 (H : Sep ok w w112 [.blk b1 79 [.slice A93 v91.1.Arena.Slots.length cp94, .slice A96 v91.1.Kids.length cp97], .blk b3 82 [.int .i64 0, .int .i64 0, .int .i64 0, .int .i64 0, .int .i64 0, .int .i64 0], .blk b5 79 [.slice A49 v47.1.Arena.Slots.length cp50, .slice A52 v47.1.Kids.length cp53], .blk b7 82 [.int .i64 v10.2.1.Slot, .int .i64 v10.2.1.Gen, .int .i64 v27.2.1.Slot, .int .i64 v27.2.1.Gen, .int .i64 v47.2.1.Slot, .int .i64 v47.2.1.Gen], .blk b18 79 [.slice A12 v10.1.Arena.Slots.length cp13, .slice A15 v10.1.Kids.length cp16], .blk b20 81 [.int .i64 v10.2.1.Slot, .int .i64 v10.2.1.Gen], .blk b35 79 [.slice A29 v27.1.Arena.Slots.length cp30, .slice A32 v27.1.Kids.length cp33], .blk b37 81 [.int .i64 v27.2.1.Slot, .int .i64 v27.2.1.Gen], .blk b55 79 [.slice A49 v47.1.Arena.Slots.length cp50, .slice A52 v47.1.Kids.length cp53], .blk b57 81 [.int .i64 v47.2.1.Slot, .int .i64 v47.2.1.Gen], .blk b75 79 [.slice A69 v67.1.Arena.Slots.length cp70, .slice A72 v67.1.Kids.length cp73], .blk b87 79 [.slice A81 v79.1.Arena.Slots.length cp82, .slice A84 v79.1.Kids.length cp85], .blk b99 79 [.slice A93 v91.1.Arena.Slots.length cp94, .slice A96 v91.1.Kids.length cp97]] [RE.rd k_Slot A12 cp13 v10.1.Arena.Slots, RE.rd (Kd.slice k_Handle) A15 cp16 v10.1.Kids, RE.rd k_Slot A29 cp30 v27.1.Arena.Slots, RE.rd (Kd.slice k_Handle) A32 cp33 v27.1.Kids, RE.rd k_Slot A49 cp50 v47.1.Arena.Slots, RE.rd (Kd.slice k_Handle) A52 cp53 v47.1.Kids, RE.rd k_Slot A69 cp70 v67.1.Arena.Slots, RE.rd (Kd.slice k_Handle) A72 cp73 v67.1.Kids, RE.rd k_Slot A81 cp82 v79.1.Arena.Slots, RE.rd (Kd.slice k_Handle) A84 cp85 v79.1.Kids, RE.rd k_Slot A93 cp94 v91.1.Arena.Slots, RE.rd (Kd.slice k_Handle) A96 cp97 v91.1.Kids]) => ⟨(Sep.holeL H 0), ?_⟩))
      refine PR_tail (by rfl) (O_store (i := 1) (off := 0) (by exact wn0 rfl) (by rfl) (by rfl) H (by rfl) (vs := [.int .i64 v10.2.1.Slot, .int .i64 v10.2.1.Gen, .int .i64 v27.2.1.Slot, .int .i64 v27.2.1.Gen, .int .i64 v47.2.1.Slot, .int .i64 v47.2.1.Gen]) (by rfl) sz82 (by rfl) (by rfl) (by rfl) (fun w113 (H : Sep ok w w113 [.blk b1 79 [.slice A93 v91.1.Arena.Slots.length cp94, .slice A96 v91.1.Kids.length cp97], .blk b3 82 [.int .i64 v10.2.1.Slot, .int .i64 v10.2.1.Gen, .int .i64 v27.2.1.Slot, .int .i64 v27.2.1.Gen, .int .i64 v47.2.1.Slot, .int .i64 v47.2.1.Gen], .blk b5 79 [.slice A49 v47.1.Arena.Slots.length cp50, .slice A52 v47.1.Kids.length cp53], .blk b7 82 [.int .i64 v10.2.1.Slot, .int .i64 v10.2.1.Gen, .int .i64 v27.2.1.Slot, .int .i64 v27.2.1.Gen, .int .i64 v47.2.1.Slot, .int .i64 v47.2.1.Gen], .blk b18 79 [.slice A12 v10.1.Arena.Slots.length cp13, .slice A15 v10.1.Kids.length cp16], .blk b20 81 [.int .i64 v10.2.1.Slot, .int .i64 v10.2.1.Gen], .blk b35 79 [.slice A29 v27.1.Arena.Slots.length cp30, .slice A32 v27.1.Kids.length cp33], .blk b37 81 [.int .i64 v27.2.1.Slot, .int .i64 v27.2.1.Gen], .blk b55 79 [.slice A49 v47.1.Arena.Slots.length cp50, .slice A52 v47.1.Kids.length cp53], .blk b57 81 [.int .i64 v47.2.1.Slot, .int .i64 v47.2.1.Gen], .blk b75 79 [.slice A69 v67.1.Arena.Slots.length cp70, .slice A72 v67.1.Kids.length cp73], .blk b87 79 [.slice A81 v79.1.Arena.Slots.length cp82, .slice A84 v79.1.Kids.length cp85], .blk b99 79 [.slice A93 v91.1.Arena.Slots.length cp94, .slice A96 v91.1.Kids.length cp97]] [RE.rd k_Slot A12 cp13 v10.1.Arena.Slots, RE.rd (Kd.slice k_Handle) A15 cp16 v10.1.Kids, RE.rd k_Slot A29 cp30 v27.1.Arena.Slots, RE.rd (Kd.slice k_Handle) A32 cp33 v27.1.Kids, RE.rd k_Slot A49 cp50 v47.1.Arena.Slots, RE.rd (Kd.slice k_Handle) A52 cp53 v47.1.Kids, RE.rd k_Slot A69 cp70 v67.1.Arena.Slots, RE.rd (Kd.slice k_Handle) A72 cp73 v67.1.Kids, RE.rd k_Slot A81 cp82 v79.1.Arena.Slots, RE.rd (Kd.slice k_Handle) A84 cp85 v79.1.Kids, RE.rd k_Slot A93 cp94 v91.1.Arena.Slots, RE.rd (Kd.slice k_Handle) A96 cp97 v91.1.Kids]) => ?_))
      refine PR_free (by rfl) (by rfl) (by rfl) (by exact wn0 rfl) (fun wS => (x_assign (v := .bool b109) (by rfl))) ?_
      refine PR_nil ?_
      refine W_ret ?_
      obtain rfl := Option.some.inj hm
      exact ⟨[.agg #[.slice A93 v91.1.Arena.Slots.length cp94, .slice A96 v91.1.Kids.length cp97], .agg #[.int .i64 v10.2.1.Slot, .int .i64 v10.2.1.Gen, .int .i64 v27.2.1.Slot, .int .i64 v27.2.1.Gen, .int .i64 v47.2.1.Slot, .int .i64 v47.2.1.Gen], .bool b109], (.cellA (by rfl) ag79 (H.cells (i := 0) (by rfl)) (by rfl) (.cellA (by rfl) ag82 (H.cells (i := 1) (by rfl)) (by rfl) (.tmp (by rfl) rfl))), A93, cp94, A96, cp97, rfl, (H.forgetAll).pick [10, 11]⟩
end Go.Proofs.YtobkigllalbkiaaV.M

/- A plain Lean function that answers as the Go function does (none: not told), and the proof that a call answers so. Written by program. -/
set_option linter.unusedVariables false
namespace Go.Proofs.YtobkigllalbkiaaV.M
open Go.RowKit Go.Proofs.YtobkigllalbkiaaV
/-- diorama/nodes.Kids -/
def m39 (K : Nat) (a0 : S_Graph) (a1 : S_Handle) : Option ((List S_Handle) × Int) :=
 ((m79 K a0 ([a1])).bind fun v18 => (bif (v18 != 0) then some ([], v18) else (idx a0.Kids a1.Slot fun el21 => ((m82 K el21).bind fun v39 => some (v39, 0)))))
set_option maxRecDepth 100000 in
set_option maxHeartbeats 4000000 in
theorem c39 (ok : Okp) (K : Nat) (w : World) (a0 : S_Graph) (A1 : Option Addr) (cp2 : Nat) (A5 : Option Addr) (cp6 : Nat) (a1 : S_Handle) (hR3 : Rd k_Slot w ok A1 cp2 a0.Arena.Slots) (hR7 : Rd (Kd.slice k_Handle) w ok A5 cp6 a0.Kids) (res : (List S_Handle) × Int) (hm : m39 K a0 a1 = some res) :
  Calls Try.prog 39 #[.agg #[.slice A1 a0.Arena.Slots.length cp2, .slice A5 a0.Kids.length cp6], .agg #[.int .i64 a1.Slot, .int .i64 a1.Gen]] w (fun e w' => ∃ (A0_ : Option Addr) (c0_ : Nat), e = .returned (tup [.slice A0_ res.1.length c0_, .int .i64 res.2]) ∧ Sep ok w w' [] [RE.rd k_Handle A0_ c0_ res.1]) := by
 refine calls_W (args := [.agg #[.slice A1 a0.Arena.Slots.length cp2, .slice A5 a0.Kids.length cp6], .agg #[.int .i64 a1.Slot, .int .i64 a1.Gen]]) Try.func39 rfl Try.ntmps39 Try.results39 rfl fun r hr => ?_
 obtain ⟨r1, rfl⟩ := regen (r := r) [(0, .agg #[.slice A1 a0.Arena.Slots.length cp2, .slice A5 a0.Kids.length cp6]), (1, .agg #[.int .i64 a1.Slot, .int .i64 a1.Gen])] ⟨hr 0 _ rfl, hr 1 _ rfl, trivial⟩
 have H : Sep ok w w [] [RE.rd k_Slot A1 cp2 a0.Arena.Slots, RE.rd (Kd.slice k_Handle) A5 cp6 a0.Kids] := Sep.arg (Sep.arg (Sep.start ok w) (re := RE.rd k_Slot A1 cp2 a0.Arena.Slots) rfl rfl hR3) (re := RE.rd (Kd.slice k_Handle) A5 cp6 a0.Kids) rfl rfl hR7
 unfold m39 at hm
 refine W_seq ?_
 refine W_region ?_
 refine RL_cons (O_box (by exact wn0 rfl) (by rfl) (by rfl) (by rfl) H (fun w10 b9 (H : Sep ok w w10 [.blk b9 79 [.slice A1 a0.Arena.Slots.length cp2, .slice A5 a0.Kids.length cp6]] [RE.rd k_Slot A1 cp2 a0.Arena.Slots, RE.rd (Kd.slice k_Handle) A5 cp6 a0.Kids]) => ?_))
 refine RL_cons (O_box (by exact wn0 rfl) (by rfl) (by rfl) (by rfl) H (fun w12 b11 (H : Sep ok w w12 [.blk b9 79 [.slice A1 a0.Arena.Slots.length cp2, .slice A5 a0.Kids.length cp6], .blk b11 81 [.int .i64 a1.Slot, .int .i64 a1.Gen]] [RE.rd k_Slot A1 cp2 a0.Arena.Slots, RE.rd (Kd.slice k_Handle) A5 cp6 a0.Kids]) => ?_))
 refine RL_pure (by exact wn0 rfl) (by rfl) (by rfl) (x_assign (v := .slice none 0 0) (by rfl)) ?_
 refine RL_pure (by exact wn0 rfl) (by rfl) (by rfl) (x_assign (v := .int .i64 0) (by rfl)) ?_
 refine RL_nil ?_
 refine W_seq ?_
 refine W_seq ?_
 refine W_region ?_
 refine RL_pure (by exact wn0 rfl) (by rfl) (by rfl) (x_loadA (j := 0) (vs := [.slice A1 a0.Arena.Slots.length cp2, .slice A5 a0.Kids.length cp6]) ag79 (by rfl) (H.cells (i := 0) (by rfl)) (by rfl) (by rfl)) ?_
 refine RL_pure (by exact wn0 rfl) (by rfl) (by rfl) (x_loadA (j := 0) (vs := [.int .i64 a1.Slot, .int .i64 a1.Gen]) ag81 (by rfl) (H.cells (i := 1) (by rfl)) (by rfl) (by rfl)) ?_
 refine RL_cons (O_buildSlice (vs := [(0, .agg #[.int .i64 a1.Slot, .int .i64 a1.Gen])]) (cs := [.int .i64 a1.Slot, .int .i64 a1.Gen]) (by exact wn0 rfl) (by rfl) sl87 sz81 ze81 (by rfl) (by rfl) (by rfl) (by kernel_rfl) H (fun w14 b13 (H : Sep ok w w14 [.blk b9 79 [.slice A1 a0.Arena.Slots.length cp2, .slice A5 a0.Kids.length cp6], .blk b11 81 [.int .i64 a1.Slot, .int .i64 a1.Gen], .blk b13 81 [.int .i64 a1.Slot, .int .i64 a1.Gen]] [RE.rd k_Slot A1 cp2 a0.Arena.Slots, RE.rd (Kd.slice k_Handle) A5 cp6 a0.Kids]) => ?_))
 have H : Sep ok w w14 [.blk b9 79 [.slice A1 a0.Arena.Slots.length cp2, .slice A5 a0.Kids.length cp6], .blk b11 81 [.int .i64 a1.Slot, .int .i64 a1.Gen], .row (.slice (some ⟨b13, 0, none⟩) ([a1]).length 1) 81 k_Handle.sz ([a1]).length [.int .i64 a1.Slot, .int .i64 a1.Gen]] [RE.rd k_Slot A1 cp2 a0.Arena.Slots, RE.rd (Kd.slice k_Handle) A5 cp6 a0.Kids, RE.chunks k_Handle [.int .i64 a1.Slot, .int .i64 a1.Gen] ([a1])] := H.rowOf (i := 2) (D := k_Handle) (xs := [a1]) (by rfl) (by exact ⟨rfl, rfl⟩) (by rfl)
 obtain ⟨v18, hv17, hm⟩ := bind_some hm
 refine RL_cons (O_call (by exact wn0 rfl) (by rfl) (by rfl) (x_callL (by rfl) (args := [.agg #[.slice A1 a0.Arena.Slots.length cp2, .slice A5 a0.Kids.length cp6], .slice (some ⟨b13, 0, none⟩) ([a1]).length 1]) (by rfl) (cf79 _ _)) (c79 okT K w14 a0 A1 cp2 A5 cp6 ([a1]) (some ⟨b13, 0, none⟩) 1 (H.rd (i := 0) (by rfl)).any (H.rd (i := 1) (by rfl)).any (H.rowRd (i := 2) (j := 2) (by rfl) (by rfl)) v18 hv17) ?_)
 rintro e w19 ⟨rfl, H2⟩
 have H : Sep ok w w19 [.blk b9 79 [.slice A1 a0.Arena.Slots.length cp2, .slice A5 a0.Kids.length cp6], .blk b11 81 [.int .i64 a1.Slot, .int .i64 a1.Gen], .row (.slice (some ⟨b13, 0, none⟩) ([a1]).length 1) 81 k_Handle.sz ([a1]).length [.int .i64 a1.Slot, .int .i64 a1.Gen]] [RE.rd k_Slot A1 cp2 a0.Arena.Slots, RE.rd (Kd.slice k_Handle) A5 cp6 a0.Kids, RE.chunks k_Handle [.int .i64 a1.Slot, .int .i64 a1.Gen] ([a1])] := H.below H2.base
 clear H2
 refine ⟨_, rfl, ?_⟩
 show RL _ _ _ _ _ _ _
 refine RL_pure (by exact wn0 rfl) (by rfl) (by rfl) (x_assign (v := .int .i64 v18) (by rfl)) ?_
 refine RL_nil ?_
 refine W_seq ?_
 refine W_region ?_
 refine RL_pure (by exact wn0 rfl) (by rfl) (by rfl) (x_move (v := .int .i64 v18) (by rfl)) ?_
 refine RL_pure (by exact wn0 rfl) (by rfl) (by rfl) (x_neq (by rfl) (by rfl)) ?_
 refine RL_nil ?_
 refine W_cond (by rfl) (fun hb => ?_) (fun hb => ?_)
 ·have hm := cond_t hb hm
  refine W_seq ?_
  refine W_region ?_
  refine RL_pure (by exact wn0 rfl) (by rfl) (by rfl) (x_move (v := .int .i64 v18) (by rfl)) ?_
  refine RL_pure (by exact wn0 rfl) (by rfl) (by rfl) (x_assign (v := .slice none 0 0) (by rfl)) ?_
  refine RL_pure (by exact wn0 rfl) (by rfl) (by rfl) (x_assign (v := .int .i64 v18) (by rfl)) ?_
  refine RL_nil ?_
  refine W_ret ?_
  have H : Sep ok w w19 [.blk b9 79 [.slice A1 a0.Arena.Slots.length cp2, .slice A5 a0.Kids.length cp6], .blk b11 81 [.int .i64 a1.Slot, .int .i64 a1.Gen], .row (.slice (some ⟨b13, 0, none⟩) ([a1]).length 1) 81 k_Handle.sz ([a1]).length [.int .i64 a1.Slot, .int .i64 a1.Gen]] [RE.rd k_Slot A1 cp2 a0.Arena.Slots, RE.rd (Kd.slice k_Handle) A5 cp6 a0.Kids, RE.chunks k_Handle [.int .i64 a1.Slot, .int .i64 a1.Gen] ([a1]), RE.rd k_Handle none 0 ([])] := Sep.also H (re := RE.rd k_Handle none 0 ([])) (Rd.nil (by decide))
  obtain rfl := Option.some.inj hm
  exact ⟨[.slice none 0 0, .int .i64 v18], (.tmp (by rfl) (.tmp (by rfl) rfl)), none, 0, rfl, (H.forgetAll).pick [3]⟩
 ·have hm := cond_f hb hm
  refine W_skip ?_
  refine W_seq ?_
  refine W_region ?_
  refine RL_pure (by exact wn0 rfl) (by rfl) (by rfl) (x_fieldAddr fo79_1 (by rfl)) ?_
  refine RL_pure (by exact wn0 rfl) (by rfl) (by rfl) (x_load (j := 1) (v := .slice A5 a0.Kids.length cp6) sc77 (by rfl) (H.cells (i := 0) (by rfl)) (by rfl)) ?_
  refine RL_pure (by exact wn0 rfl) (by rfl) (by rfl) (x_fieldAddr fo81_0 (by rfl)) ?_
  refine RL_pure (by exact wn0 rfl) (by rfl) (by rfl) (x_load (j := 0) (v := .int .i64 a1.Slot) sc3 (by rfl) (H.cells (i := 1) (by rfl)) (by rfl)) ?_
  obtain ⟨el21, h22, h23, he24, hm⟩ := idx_some hm
  obtain ⟨g26, o27, hA25⟩ := (H.rd (i := 1) (by rfl)).addr he24
  obtain ⟨cs28, hk29, hat30, hg_cs28⟩ := (H.rd (i := 1) (by rfl)).openAt hA25 he24
  obtain ⟨A33, cp34, rfl, hR36⟩ := hk29
  have H : Sep ok w w19 [.blk b9 79 [.slice A1 a0.Arena.Slots.length cp2, .slice A5 a0.Kids.length cp6], .blk b11 81 [.int .i64 a1.Slot, .int .i64 a1.Gen], .row (.slice (some ⟨b13, 0, none⟩) ([a1]).length 1) 81 k_Handle.sz ([a1]).length [.int .i64 a1.Slot, .int .i64 a1.Gen]] [RE.rd k_Slot A1 cp2 a0.Arena.Slots, RE.rd (Kd.slice k_Handle) A5 cp6 a0.Kids, RE.chunks k_Handle [.int .i64 a1.Slot, .int .i64 a1.Gen] ([a1]), RE.cells g26 (o27 + (a1.Slot).toNat * 1) [.slice A33 el21.length cp34]] := Sep.also H (re := RE.cells g26 (o27 + (a1.Slot).toNat * 1) [.slice A33 el21.length cp34]) ⟨hg_cs28, hat30⟩
  have H : Sep ok w w19 [.blk b9 79 [.slice A1 a0.Arena.Slots.length cp2, .slice A5 a0.Kids.length cp6], .blk b11 81 [.int .i64 a1.Slot, .int .i64 a1.Gen], .row (.slice (some ⟨b13, 0, none⟩) ([a1]).length 1) 81 k_Handle.sz ([a1]).length [.int .i64 a1.Slot, .int .i64 a1.Gen]] [RE.rd k_Slot A1 cp2 a0.Arena.Slots, RE.rd (Kd.slice k_Handle) A5 cp6 a0.Kids, RE.chunks k_Handle [.int .i64 a1.Slot, .int .i64 a1.Gen] ([a1]), RE.cells g26 (o27 + (a1.Slot).toNat * 1) [.slice A33 el21.length cp34], RE.rd k_Handle A33 cp34 el21] := Sep.also H (re := RE.rd k_Handle A33 cp34 el21) hR36
  refine RL_pure (by exact wn0 rfl) (by rfl) (by rfl) (x_indexAddr sl77 sz87 (by rfl) (by rfl) hA25 h22 h23) ?_
  refine RL_pure (by exact wn0 rfl) (by rfl) (by rfl) (x_load (j := 0) (v := .slice A33 el21.length cp34) sc87 (by rfl) (H.cellsR (i := 3) (by rfl)) (by rfl)) ?_
  obtain ⟨v39, hv38, hm⟩ := bind_some hm
  refine RL_cons (O_call (by exact wn0 rfl) (by rfl) (by rfl) (x_callL (by rfl) (args := [.slice A33 el21.length cp34]) (by rfl) (cf82 _ _)) (c82 (okS ok w [.blk b9 79 [.slice A1 a0.Arena.Slots.length cp2, .slice A5 a0.Kids.length cp6], .blk b11 81 [.int .i64 a1.Slot, .int .i64 a1.Gen], .row (.slice (some ⟨b13, 0, none⟩) ([a1]).length 1) 81 k_Handle.sz ([a1]).length [.int .i64 a1.Slot, .int .i64 a1.Gen]]) K w19 el21 A33 cp34 (H.rd (i := 4) (by rfl)) v39 hv38) ?_)
  rintro e w40 ⟨A41, cp42, cs43, rfl, H2⟩
  have H : Sep ok w w40 [.blk b9 79 [.slice A1 a0.Arena.Slots.length cp2, .slice A5 a0.Kids.length cp6], .blk b11 81 [.int .i64 a1.Slot, .int .i64 a1.Gen], .row (.slice (some ⟨b13, 0, none⟩) ([a1]).length 1) 81 k_Handle.sz ([a1]).length [.int .i64 a1.Slot, .int .i64 a1.Gen], .row (.slice A41 v39.length cp42) 81 k_Handle.sz v39.length cs43] [RE.rd k_Slot A1 cp2 a0.Arena.Slots, RE.rd (Kd.slice k_Handle) A5 cp6 a0.Kids, RE.chunks k_Handle [.int .i64 a1.Slot, .int .i64 a1.Gen] ([a1]), RE.cells g26 (o27 + (a1.Slot).toNat * 1) [.slice A33 el21.length cp34], RE.rd k_Handle A33 cp34 el21, RE.chunks k_Handle cs43 v39] := H.call H2
  clear H2
  refine ⟨_, rfl, ?_⟩
  show RL _ _ _ _ _ _ _
  refine RL_pure (by exact wn0 rfl) (by rfl) (by rfl) (x_assign (v := .slice A41 v39.length cp42) (by rfl)) ?_
  refine RL_pure (by exact wn0 rfl) (by rfl) (by rfl) (x_assign (v := .int .i64 0) (by rfl)) ?_
  refine RL_nil ?_
  refine W_ret ?_
  have H : Sep ok w w40 [.blk b9 79 [.slice A1 a0.Arena.Slots.length cp2, .slice A5 a0.Kids.length cp6], .blk b11 81 [.int .i64 a1.Slot, .int .i64 a1.Gen], .row (.slice (some ⟨b13, 0, none⟩) ([a1]).length 1) 81 k_Handle.sz ([a1]).length [.int .i64 a1.Slot, .int .i64 a1.Gen], .hole] [RE.rd k_Slot A1 cp2 a0.Arena.Slots, RE.rd (Kd.slice k_Handle) A5 cp6 a0.Kids, RE.chunks k_Handle [.int .i64 a1.Slot, .int .i64 a1.Gen] ([a1]), RE.cells g26 (o27 + (a1.Slot).toNat * 1) [.slice A33 el21.length cp34], RE.rd k_Handle A33 cp34 el21, RE.rd k_Handle A41 cp42 v39] := H.frozen (i := 3) (j := 5) (by rfl) (by rfl)
  obtain rfl := Option.some.inj hm
  exact ⟨[.slice A41 v39.length cp42, .int .i64 0], (.tmp (by rfl) (.tmp (by rfl) rfl)), A41, cp42, rfl, (H.forgetAll).pick [5]⟩
end Go.Proofs.YtobkigllalbkiaaV.M

/- A plain Lean function that answers as the Go function does (none: not told), and the proof that a call answers so. Written by program. -/
set_option linter.unusedVariables false
namespace Go.Proofs.YtobkigllalbkiaaV.M
open Go.RowKit Go.Proofs.YtobkigllalbkiaaV
def m87_l2b (K : Nat) (a0 : S_Graph) (a1 : S_Handle) (y22_1 : Int) (rec1 : (List S_Handle) → Int → Option ((List S_Handle) × Int)) (el23 : (List S_Handle)) (rec2 : (List S_Handle) → Int → Option ((List S_Handle) × Int)) (l_row57_2 : (List S_Handle)) (y29_2 : Int) : Option ((List S_Handle) × Int) :=
 (bif (decide (y29_2 < (el23.length : Int))) then (idx el23 y29_2 fun el42 => (bif ((el42.Slot == a1.Slot) && (el42.Gen == a1.Gen)) then (idx a0.Arena.Slots y22_1 fun el52 => (apd 16 l_row57_2 (⟨y22_1, el52.Gen⟩ : S_Handle) fun l65 => (ck (y29_2 + 1) fun x68 => (rec2 l65 x68)))) else (ck (y29_2 + 1) fun x69 => (rec2 l_row57_2 x69)))) else (ck (y22_1 + 1) fun x70 => (rec1 l_row57_2 x70)))
def m87_l2 (K : Nat) (a0 : S_Graph) (a1 : S_Handle) (y22_1 : Int) (rec1 : (List S_Handle) → Int → Option ((List S_Handle) × Int)) (el23 : (List S_Handle)) : Nat → (List S_Handle) → Int → Option ((List S_Handle) × Int)
 | 0 => fun _ _ => none
 | k + 1 => m87_l2b K a0 a1 y22_1 rec1 el23 (m87_l2 K a0 a1 y22_1 rec1 el23 k)
def m87_l1b (K : Nat) (a0 : S_Graph) (a1 : S_Handle) (rec1 : (List S_Handle) → Int → Option ((List S_Handle) × Int)) (l_row57_1 : (List S_Handle)) (y22_1 : Int) : Option ((List S_Handle) × Int) :=
 (bif (decide (y22_1 < (a0.Kids.length : Int))) then (idx a0.Kids y22_1 fun el23 => m87_l2 K a0 a1 y22_1 rec1 el23 K l_row57_1 0) else some (l_row57_1, 0))
def m87_l1 (K : Nat) (a0 : S_Graph) (a1 : S_Handle) : Nat → (List S_Handle) → Int → Option ((List S_Handle) × Int)
 | 0 => fun _ _ => none
 | k + 1 => m87_l1b K a0 a1 (m87_l1 K a0 a1 k)
/-- diorama/nodes.Parents -/
def m87 (K : Nat) (a0 : S_Graph) (a1 : S_Handle) : Option ((List S_Handle) × Int) :=
 ((m79 K a0 ([a1])).bind fun v18 => (bif (v18 != 0) then some ([], v18) else m87_l1 K a0 a1 K ([]) 0))
set_option maxRecDepth 100000 in
set_option maxHeartbeats 4000000 in
theorem c87 (ok : Okp) (K : Nat) (w : World) (a0 : S_Graph) (A1 : Option Addr) (cp2 : Nat) (A5 : Option Addr) (cp6 : Nat) (a1 : S_Handle) (hR3 : Rd k_Slot w ok A1 cp2 a0.Arena.Slots) (hR7 : Rd (Kd.slice k_Handle) w ok A5 cp6 a0.Kids) (res : (List S_Handle) × Int) (hm : m87 K a0 a1 = some res) :
  Calls Try.prog 87 #[.agg #[.slice A1 a0.Arena.Slots.length cp2, .slice A5 a0.Kids.length cp6], .agg #[.int .i64 a1.Slot, .int .i64 a1.Gen]] w (fun e w' => ∃ (A0_ : Option Addr) (c0_ : Nat), e = .returned (tup [.slice A0_ res.1.length c0_, .int .i64 res.2]) ∧ Sep ok w w' [] [RE.rd k_Handle A0_ c0_ res.1]) := by
 refine calls_W (args := [.agg #[.slice A1 a0.Arena.Slots.length cp2, .slice A5 a0.Kids.length cp6], .agg #[.int .i64 a1.Slot, .int .i64 a1.Gen]]) Try.func87 rfl Try.ntmps87 Try.results87 rfl fun r hr => ?_
 obtain ⟨r1, rfl⟩ := regen (r := r) [(0, .agg #[.slice A1 a0.Arena.Slots.length cp2, .slice A5 a0.Kids.length cp6]), (1, .agg #[.int .i64 a1.Slot, .int .i64 a1.Gen])] ⟨hr 0 _ rfl, hr 1 _ rfl, trivial⟩
 have H : Sep ok w w [] [RE.rd k_Slot A1 cp2 a0.Arena.Slots, RE.rd (Kd.slice k_Handle) A5 cp6 a0.Kids] := Sep.arg (Sep.arg (Sep.start ok w) (re := RE.rd k_Slot A1 cp2 a0.Arena.Slots) rfl rfl hR3) (re := RE.rd (Kd.slice k_Handle) A5 cp6 a0.Kids) rfl rfl hR7
 unfold m87 at hm
 refine W_seq ?_
 refine W_region ?_
 refine RL_cons (O_box (by exact wn0 rfl) (by rfl) (by rfl) (by rfl) H (fun w10 b9 (H : Sep ok w w10 [.blk b9 79 [.slice A1 a0.Arena.Slots.length cp2, .slice A5 a0.Kids.length cp6]] [RE.rd k_Slot A1 cp2 a0.Arena.Slots, RE.rd (Kd.slice k_Handle) A5 cp6 a0.Kids]) => ?_))
 refine RL_cons (O_box (by exact wn0 rfl) (by rfl) (by rfl) (by rfl) H (fun w12 b11 (H : Sep ok w w12 [.blk b9 79 [.slice A1 a0.Arena.Slots.length cp2, .slice A5 a0.Kids.length cp6], .blk b11 81 [.int .i64 a1.Slot, .int .i64 a1.Gen]] [RE.rd k_Slot A1 cp2 a0.Arena.Slots, RE.rd (Kd.slice k_Handle) A5 cp6 a0.Kids]) => ?_))
 refine RL_pure (by exact wn0 rfl) (by rfl) (by rfl) (x_assign (v := .slice none 0 0) (by rfl)) ?_
 refine RL_pure (by exact wn0 rfl) (by rfl) (by rfl) (x_assign (v := .int .i64 0) (by rfl)) ?_
 refine RL_nil ?_
 refine W_seq ?_
 refine W_seq ?_
 refine W_region ?_
 refine RL_pure (by exact wn0 rfl) (by rfl) (by rfl) (x_loadA (j := 0) (vs := [.slice A1 a0.Arena.Slots.length cp2, .slice A5 a0.Kids.length cp6]) ag79 (by rfl) (H.cells (i := 0) (by rfl)) (by rfl) (by rfl)) ?_
 refine RL_pure (by exact wn0 rfl) (by rfl) (by rfl) (x_loadA (j := 0) (vs := [.int .i64 a1.Slot, .int .i64 a1.Gen]) ag81 (by rfl) (H.cells (i := 1) (by rfl)) (by rfl) (by rfl)) ?_
 refine RL_cons (O_buildSlice (vs := [(0, .agg #[.int .i64 a1.Slot, .int .i64 a1.Gen])]) (cs := [.int .i64 a1.Slot, .int .i64 a1.Gen]) (by exact wn0 rfl) (by rfl) sl87 sz81 ze81 (by rfl) (by rfl) (by rfl) (by kernel_rfl) H (fun w14 b13 (H : Sep ok w w14 [.blk b9 79 [.slice A1 a0.Arena.Slots.length cp2, .slice A5 a0.Kids.length cp6], .blk b11 81 [.int .i64 a1.Slot, .int .i64 a1.Gen], .blk b13 81 [.int .i64 a1.Slot, .int .i64 a1.Gen]] [RE.rd k_Slot A1 cp2 a0.Arena.Slots, RE.rd (Kd.slice k_Handle) A5 cp6 a0.Kids]) => ?_))
 have H : Sep ok w w14 [.blk b9 79 [.slice A1 a0.Arena.Slots.length cp2, .slice A5 a0.Kids.length cp6], .blk b11 81 [.int .i64 a1.Slot, .int .i64 a1.Gen], .row (.slice (some ⟨b13, 0, none⟩) ([a1]).length 1) 81 k_Handle.sz ([a1]).length [.int .i64 a1.Slot, .int .i64 a1.Gen]] [RE.rd k_Slot A1 cp2 a0.Arena.Slots, RE.rd (Kd.slice k_Handle) A5 cp6 a0.Kids, RE.chunks k_Handle [.int .i64 a1.Slot, .int .i64 a1.Gen] ([a1])] := H.rowOf (i := 2) (D := k_Handle) (xs := [a1]) (by rfl) (by exact ⟨rfl, rfl⟩) (by rfl)
 obtain ⟨v18, hv17, hm⟩ := bind_some hm
 refine RL_cons (O_call (by exact wn0 rfl) (by rfl) (by rfl) (x_callL (by rfl) (args := [.agg #[.slice A1 a0.Arena.Slots.length cp2, .slice A5 a0.Kids.length cp6], .slice (some ⟨b13, 0, none⟩) ([a1]).length 1]) (by rfl) (cf79 _ _)) (c79 okT K w14 a0 A1 cp2 A5 cp6 ([a1]) (some ⟨b13, 0, none⟩) 1 (H.rd (i := 0) (by rfl)).any (H.rd (i := 1) (by rfl)).any (H.rowRd (i := 2) (j := 2) (by rfl) (by rfl)) v18 hv17) ?_)
 rintro e w19 ⟨rfl, H2⟩
 have H : Sep ok w w19 [.blk b9 79 [.slice A1 a0.Arena.Slots.length cp2, .slice A5 a0.Kids.length cp6], .blk b11 81 [.int .i64 a1.Slot, .int .i64 a1.Gen], .row (.slice (some ⟨b13, 0, none⟩) ([a1]).length 1) 81 k_Handle.sz ([a1]).length [.int .i64 a1.Slot, .int .i64 a1.Gen]] [RE.rd k_Slot A1 cp2 a0.Arena.Slots, RE.rd (Kd.slice k_Handle) A5 cp6 a0.Kids, RE.chunks k_Handle [.int .i64 a1.Slot, .int .i64 a1.Gen] ([a1])] := H.below H2.base
 clear H2
 refine ⟨_, rfl, ?_⟩
 show RL _ _ _ _ _ _ _
 refine RL_pure (by exact wn0 rfl) (by rfl) (by rfl) (x_assign (v := .int .i64 v18) (by rfl)) ?_
 refine RL_nil ?_
 refine W_seq ?_
 refine W_region ?_
 refine RL_pure (by exact wn0 rfl) (by rfl) (by rfl) (x_move (v := .int .i64 v18) (by rfl)) ?_
 refine RL_pure (by exact wn0 rfl) (by rfl) (by rfl) (x_neq (by rfl) (by rfl)) ?_
 refine RL_nil ?_
 refine W_cond (by rfl) (fun hb => ?_) (fun hb => ?_)
 ·have hm := cond_t hb hm
  refine W_seq ?_
  refine W_region ?_
  refine RL_pure (by exact wn0 rfl) (by rfl) (by rfl) (x_move (v := .int .i64 v18) (by rfl)) ?_
  refine RL_pure (by exact wn0 rfl) (by rfl) (by rfl) (x_assign (v := .slice none 0 0) (by rfl)) ?_
  refine RL_pure (by exact wn0 rfl) (by rfl) (by rfl) (x_assign (v := .int .i64 v18) (by rfl)) ?_
  refine RL_nil ?_
  refine W_ret ?_
  have H : Sep ok w w19 [.blk b9 79 [.slice A1 a0.Arena.Slots.length cp2, .slice A5 a0.Kids.length cp6], .blk b11 81 [.int .i64 a1.Slot, .int .i64 a1.Gen], .row (.slice (some ⟨b13, 0, none⟩) ([a1]).length 1) 81 k_Handle.sz ([a1]).length [.int .i64 a1.Slot, .int .i64 a1.Gen]] [RE.rd k_Slot A1 cp2 a0.Arena.Slots, RE.rd (Kd.slice k_Handle) A5 cp6 a0.Kids, RE.chunks k_Handle [.int .i64 a1.Slot, .int .i64 a1.Gen] ([a1]), RE.rd k_Handle none 0 ([])] := Sep.also H (re := RE.rd k_Handle none 0 ([])) (Rd.nil (by decide))
  obtain rfl := Option.some.inj hm
  exact ⟨[.slice none 0 0, .int .i64 v18], (.tmp (by rfl) (.tmp (by rfl) rfl)), none, 0, rfl, (H.forgetAll).pick [3]⟩
 ·have hm := cond_f hb hm
  refine W_skip ?_
  refine W_seq ?_
  refine W_region ?_
  refine RL_pure (by exact wn0 rfl) (by rfl) (by rfl) (x_assign (v := .slice none 0 0) (by rfl)) ?_
  refine RL_nil ?_
  refine W_seq ?_
  refine W_seq ?_
  refine W_region ?_
  refine RL_pure (by exact wn0 rfl) (by rfl) (by rfl) (x_fieldAddr fo79_1 (by rfl)) ?_
  refine RL_pure (by exact wn0 rfl) (by rfl) (by rfl) (x_load (j := 1) (v := .slice A5 a0.Kids.length cp6) sc77 (by rfl) (H.cells (i := 0) (by rfl)) (by rfl)) ?_
  refine RL_pure (by exact wn0 rfl) (by rfl) (by rfl) (x_len sl77 (by rfl)) ?_
  refine RL_pure (by exact wn0 rfl) (by rfl) (by rfl) (x_move (v := .int .i64 0) (by rfl)) ?_
  refine RL_nil ?_
  refine W_block ?_
  refine W_loop (fun k1 r' w' => ∃ (l_row57_1 : (List S_Handle)), ∃ (y22_1 : Int), ∃ (A_row57_1 : Option Addr), ∃ (c_row57_1 : Nat), ∃ (cs_row57_1 : List Value), m87_l1 K a0 a1 k1 l_row57_1 y22_1 = some res ∧ Agr [(2, .pointer (some ⟨b9, 0, none⟩)), (3, .pointer (some ⟨b11, 0, none⟩)), (7, .slice A_row57_1 l_row57_1.length c_row57_1), (20, .slice A5 a0.Kids.length cp6), (21, .int .i64 (a0.Kids.length : Int)), (22, .int .i64 y22_1)] r' ∧ Sep ok w w' [.blk b9 79 [.slice A1 a0.Arena.Slots.length cp2, .slice A5 a0.Kids.length cp6], .blk b11 81 [.int .i64 a1.Slot, .int .i64 a1.Gen], .row (.slice (some ⟨b13, 0, none⟩) ([a1]).length 1) 81 k_Handle.sz ([a1]).length [.int .i64 a1.Slot, .int .i64 a1.Gen], .row (.slice A_row57_1 l_row57_1.length c_row57_1) 81 k_Handle.sz l_row57_1.length cs_row57_1] [RE.rd k_Slot A1 cp2 a0.Arena.Slots, RE.rd (Kd.slice k_Handle) A5 cp6 a0.Kids, RE.chunks k_Handle [.int .i64 a1.Slot, .int .i64 a1.Gen] ([a1]), RE.chunks k_Handle cs_row57_1 l_row57_1]) K ?_ ?_
  ·exact ⟨[], 0, none, 0, [], hm, ⟨rfl, rfl, rfl, rfl, rfl, rfl, trivial⟩, (H).nilRowK 81 k_Handle⟩
  ·rintro k1 r' w' ⟨l_row57_1, y22_1, A_row57_1, c_row57_1, cs_row57_1, hm, hA, H⟩
   obtain ⟨r21, rfl⟩ := regen _ hA; clear hA
   obtain ⟨w22, rfl⟩ : ∃ W : World, W = w' := ⟨_, rfl⟩
   cases k1 with
   | zero => exact (none_some hm).elim
   | succ k1 =>
    have hm : m87_l1b K a0 a1 (m87_l1 K a0 a1 k1) l_row57_1 y22_1 = some res := hm
    unfold m87_l1b at hm
    obtain ⟨rec1, hrec1⟩ : ∃ f, m87_l1 K a0 a1 k1 = f := ⟨_, rfl⟩
    rw [hrec1] at hm
    refine W_seq ?_
    refine W_region ?_
    refine RL_pure (by exact wn0 rfl) (by rfl) (by rfl) (x_lss (by rfl) (by rfl)) ?_
    refine RL_nil ?_
    refine W_seq ?_
    refine W_cond (by rfl) (fun hb => ?_) (fun hb => ?_)
    ·have hm := cond_t hb hm
     refine W_skip ?_
     refine W_seq ?_
     refine W_block ?_
     refine W_seq ?_
     refine W_region ?_
     refine RL_pure (by exact wn0 rfl) (by rfl) (by rfl) (x_move (v := .int .i64 y22_1) (by rfl)) ?_
     obtain ⟨el23, h24, h25, he26, hm⟩ := idx_some hm
     obtain ⟨g28, o29, hA27⟩ := (H.rd (i := 1) (by rfl)).addr he26
     obtain ⟨cs30, hk31, hat32, hg_cs30⟩ := (H.rd (i := 1) (by rfl)).openAt hA27 he26
     obtain ⟨A35, cp36, rfl, hR38⟩ := hk31
     have H : Sep ok w w22 [.blk b9 79 [.slice A1 a0.Arena.Slots.length cp2, .slice A5 a0.Kids.length cp6], .blk b11 81 [.int .i64 a1.Slot, .int .i64 a1.Gen], .row (.slice (some ⟨b13, 0, none⟩) ([a1]).length 1) 81 k_Handle.sz ([a1]).length [.int .i64 a1.Slot, .int .i64 a1.Gen], .row (.slice A_row57_1 l_row57_1.length c_row57_1) 81 k_Handle.sz l_row57_1.length cs_row57_1] [RE.rd k_Slot A1 cp2 a0.Arena.Slots, RE.rd (Kd.slice k_Handle) A5 cp6 a0.Kids, RE.chunks k_Handle [.int .i64 a1.Slot, .int .i64 a1.Gen] ([a1]), RE.chunks k_Handle cs_row57_1 l_row57_1, RE.cells g28 (o29 + (y22_1).toNat * 1) [.slice A35 el23.length cp36]] := Sep.also H (re := RE.cells g28 (o29 + (y22_1).toNat * 1) [.slice A35 el23.length cp36]) ⟨hg_cs30, hat32⟩
     have H : Sep ok w w22 [.blk b9 79 [.slice A1 a0.Arena.Slots.length cp2, .slice A5 a0.Kids.length cp6], .blk b11 81 [.int .i64 a1.Slot, .int .i64 a1.Gen], .row (.slice (some ⟨b13, 0, none⟩) ([a1]).length 1) 81 k_Handle.sz ([a1]).length [.int .i64 a1.Slot, .int .i64 a1.Gen], .row (.slice A_row57_1 l_row57_1.length c_row57_1) 81 k_Handle.sz l_row57_1.length cs_row57_1] [RE.rd k_Slot A1 cp2 a0.Arena.Slots, RE.rd (Kd.slice k_Handle) A5 cp6 a0.Kids, RE.chunks k_Handle [.int .i64 a1.Slot, .int .i64 a1.Gen] ([a1]), RE.chunks k_Handle cs_row57_1 l_row57_1, RE.cells g28 (o29 + (y22_1).toNat * 1) [.slice A35 el23.length cp36], RE.rd k_Handle A35 cp36 el23] := Sep.also H (re := RE.rd k_Handle A35 cp36 el23) hR38
     refine RL_pure (by exact wn0 rfl) (by rfl) (by rfl) (x_indexAddr sl77 sz87 (by rfl) (by rfl) hA27 h24 h25) ?_
     refine RL_pure (by exact wn0 rfl) (by rfl) (by rfl) (x_load (j := 0) (v := .slice A35 el23.length cp36) sc87 (by rfl) (H.cellsR (i := 4) (by rfl)) (by rfl)) ?_
     refine RL_pure (by exact wn0 rfl) (by rfl) (by rfl) (x_assign (v := .int .i64 y22_1) (by rfl)) ?_
     refine RL_pure (by exact wn0 rfl) (by rfl) (by rfl) (x_assign (v := .slice A35 el23.length cp36) (by rfl)) ?_
     refine RL_nil ?_
     refine W_seq ?_
     refine W_region ?_
     refine RL_pure (by exact wn0 rfl) (by rfl) (by rfl) (x_move (v := .slice A35 el23.length cp36) (by rfl)) ?_
     refine RL_pure (by exact wn0 rfl) (by rfl) (by rfl) (x_len sl87 (by rfl)) ?_
     refine RL_pure (by exact wn0 rfl) (by rfl) (by rfl) (x_move (v := .int .i64 0) (by rfl)) ?_
     refine RL_nil ?_
     refine W_block ?_
     refine W_loop (fun k2 r' w' => ∃ (l_row57_2 : (List S_Handle)), ∃ (y29_2 : Int), ∃ (A_row57_2 : Option Addr), ∃ (c_row57_2 : Nat), ∃ (cs_row57_2 : List Value), m87_l2 K a0 a1 y22_1 rec1 el23 k2 l_row57_2 y29_2 = some res ∧ Agr [(2, .pointer (some ⟨b9, 0, none⟩)), (3, .pointer (some ⟨b11, 0, none⟩)), (7, .slice A_row57_2 l_row57_2.length c_row57_2), (8, .int .i64 y22_1), (20, .slice A5 a0.Kids.length cp6), (21, .int .i64 (a0.Kids.length : Int)), (22, .int .i64 y22_1), (27, .slice A35 el23.length cp36), (28, .int .i64 (el23.length : Int)), (29, .int .i64 y29_2)] r' ∧ Sep ok w w' [.blk b9 79 [.slice A1 a0.Arena.Slots.length cp2, .slice A5 a0.Kids.length cp6], .blk b11 81 [.int .i64 a1.Slot, .int .i64 a1.Gen], .row (.slice (some ⟨b13, 0, none⟩) ([a1]).length 1) 81 k_Handle.sz ([a1]).length [.int .i64 a1.Slot, .int .i64 a1.Gen], .row (.slice A_row57_2 l_row57_2.length c_row57_2) 81 k_Handle.sz l_row57_2.length cs_row57_2] [RE.rd k_Slot A1 cp2 a0.Arena.Slots, RE.rd (Kd.slice k_Handle) A5 cp6 a0.Kids, RE.chunks k_Handle [.int .i64 a1.Slot, .int .i64 a1.Gen] ([a1]), RE.chunks k_Handle cs_row57_2 l_row57_2, RE.cells g28 (o29 + (y22_1).toNat * 1) [.slice A35 el23.length cp36], RE.rd k_Handle A35 cp36 el23]) K ?_ ?_
     ·exact ⟨l_row57_1, 0, A_row57_1, c_row57_1, cs_row57_1, hm, ⟨rfl, rfl, rfl, rfl, rfl, rfl, rfl, rfl, rfl, rfl, trivial⟩, H⟩
     ·rintro k2 r' w' ⟨l_row57_2, y29_2, A_row57_2, c_row57_2, cs_row57_2, hm, hA, H⟩
      obtain ⟨r40, rfl⟩ := regen _ hA; clear hA
      obtain ⟨w41, rfl⟩ : ∃ W : World, W = w' := ⟨_, rfl⟩
      cases k2 with
      | zero => exact (none_some hm).elim
      | succ k2 =>
       have hm : m87_l2b K a0 a1 y22_1 rec1 el23 (m87_l2 K a0 a1 y22_1 rec1 el23 k2) l_row57_2 y29_2 = some res := hm
       unfold m87_l2b at hm
       obtain ⟨rec2, hrec2⟩ : ∃ f, m87_l2 K a0 a1 y22_1 rec1 el23 k2 = f := ⟨_, rfl⟩
       rw [hrec2] at hm
       refine W_seq ?_
       refine W_region ?_
       refine RL_pure (by exact wn0 rfl) (by rfl) (by rfl) (x_lss (by rfl) (by rfl)) ?_
       refine RL_nil ?_
       refine W_seq ?_
       refine W_cond (by rfl) (fun hb => ?_) (fun hb => ?_)
       ·have hm := cond_t hb hm
        refine W_skip ?_
        refine W_seq ?_
        refine W_block ?_
        refine W_seq ?_
        refine W_region ?_
        obtain ⟨el42, h43, h44, he45, hm⟩ := idx_some hm
        obtain ⟨g47, o48, hA46⟩ := (H.rd (i := 5) (by rfl)).addr he45
        refine RL_pure (by exact wn0 rfl) (by rfl) (by rfl) (x_indexAddr sl87 sz81 (by rfl) (by rfl) hA46 h43 h44) ?_
        refine RL_pure (by exact wn0 rfl) (by rfl) (by rfl) (x_loadA (j := 0) (vs := [.int .i64 el42.Slot, .int .i64 el42.Gen]) ag81 (by rfl) (Rd.flatAt (n := 2) (H.rd (i := 5) (by rfl)) hA46 he45) (by rfl) (by rfl)) ?_
        refine RL_cons (O_alloc (by exact wn0 rfl) (by rfl) ze81 (by rfl) H (fun w50 b49 (H : Sep ok w w50 [.blk b9 79 [.slice A1 a0.Arena.Slots.length cp2, .slice A5 a0.Kids.length cp6], .blk b11 81 [.int .i64 a1.Slot, .int .i64 a1.Gen], .row (.slice (some ⟨b13, 0, none⟩) ([a1]).length 1) 81 k_Handle.sz ([a1]).length [.int .i64 a1.Slot, .int .i64 a1.Gen], .row (.slice A_row57_2 l_row57_2.length c_row57_2) 81 k_Handle.sz l_row57_2.length cs_row57_2, .blk b49 81 [.int .i64 0, .int .i64 0]] [RE.rd k_Slot A1 cp2 a0.Arena.Slots, RE.rd (Kd.slice k_Handle) A5 cp6 a0.Kids, RE.chunks k_Handle [.int .i64 a1.Slot, .int .i64 a1.Gen] ([a1]), RE.chunks k_Handle cs_row57_2 l_row57_2, RE.cells g28 (o29 + (y22_1).toNat * 1) [.slice A35 el23.length cp36], RE.rd k_Handle A35 cp36 el23]) => ?_))
        refine RL_cons (O_store (i := 4) (off := 0) (by exact wn0 rfl) (by rfl) (by rfl) H (by rfl) (vs := [.int .i64 el42.Slot, .int .i64 el42.Gen]) (by rfl) sz81 (by rfl) (by rfl) (by rfl) (fun w51 (H : Sep ok w w51 [.blk b9 79 [.slice A1 a0.Arena.Slots.length cp2, .slice A5 a0.Kids.length cp6], .blk b11 81 [.int .i64 a1.Slot, .int .i64 a1.Gen], .row (.slice (some ⟨b13, 0, none⟩) ([a1]).length 1) 81 k_Handle.sz ([a1]).length [.int .i64 a1.Slot, .int .i64 a1.Gen], .row (.slice A_row57_2 l_row57_2.length c_row57_2) 81 k_Handle.sz l_row57_2.length cs_row57_2, .blk b49 81 [.int .i64 el42.Slot, .int .i64 el42.Gen]] [RE.rd k_Slot A1 cp2 a0.Arena.Slots, RE.rd (Kd.slice k_Handle) A5 cp6 a0.Kids, RE.chunks k_Handle [.int .i64 a1.Slot, .int .i64 a1.Gen] ([a1]), RE.chunks k_Handle cs_row57_2 l_row57_2, RE.cells g28 (o29 + (y22_1).toNat * 1) [.slice A35 el23.length cp36], RE.rd k_Handle A35 cp36 el23]) => ?_))
        refine RL_nil ?_
        refine W_seq ?_
        refine W_region ?_
        refine RL_pure (by exact wn0 rfl) (by rfl) (by rfl) (x_loadA (j := 0) (vs := [.int .i64 el42.Slot, .int .i64 el42.Gen]) ag81 (by rfl) (H.cells (i := 4) (by rfl)) (by rfl) (by rfl)) ?_
        refine RL_pure (by exact wn0 rfl) (by rfl) (by rfl) (x_loadA (j := 0) (vs := [.int .i64 a1.Slot, .int .i64 a1.Gen]) ag81 (by rfl) (H.cells (i := 1) (by rfl)) (by rfl) (by rfl)) ?_
        refine RL_pure (by exact wn0 rfl) (by rfl) (by rfl) (x_eqls ep81 eg81 (by rfl) (by rfl) (b := ((el42.Slot == a1.Slot) && (el42.Gen == a1.Gen))) (by rfl)) ?_
        refine RL_nil ?_
        refine W_cond (by rfl) (fun hb => ?_) (fun hb => ?_)
        ·have hm := cond_t hb hm
         refine W_region ?_
         refine RL_pure (by exact wn0 rfl) (by rfl) (by rfl) (x_move (v := .slice A_row57_2 l_row57_2.length c_row57_2) (by rfl)) ?_
         refine RL_pure (by exact wn0 rfl) (by rfl) (by rfl) (x_move (v := .int .i64 y22_1) (by rfl)) ?_
         refine RL_pure (by exact wn0 rfl) (by rfl) (by rfl) (x_fieldAddr fo79_0 (by rfl)) ?_
         refine RL_pure (by exact wn0 rfl) (by rfl) (by rfl) (x_fieldAddr fo76_0 (by rfl)) ?_
         refine RL_pure (by exact wn0 rfl) (by rfl) (by rfl) (x_load (j := 0) (v := .slice A1 a0.Arena.Slots.length cp2) sc74 (by rfl) (H.cells (i := 0) (by rfl)) (by rfl)) ?_
         refine RL_pure (by exact wn0 rfl) (by rfl) (by rfl) (x_move (v := .int .i64 y22_1) (by rfl)) ?_
         obtain ⟨el52, h53, h54, he55, hm⟩ := idx_some hm
         obtain ⟨g57, o58, hA56⟩ := (H.rd (i := 0) (by rfl)).addr he55
         refine RL_pure (by exact wn0 rfl) (by rfl) (by rfl) (x_indexAddr sl74 sz96 (by rfl) (by rfl) hA56 h53 h54) ?_
         refine RL_pure (by exact wn0 rfl) (by rfl) (by rfl) (x_fieldAddr fo96_0 (by rfl)) ?_
         refine RL_pure (by exact wn0 rfl) (by rfl) (by rfl) (x_load (j := 0) (v := .int .i64 el52.Gen) sc3 (by rfl) (Rd.flatAt (n := 2) (H.rd (i := 0) (by rfl)) hA56 he55) (by rfl)) ?_
         refine RL_pure (by exact wn0 rfl) (by rfl) (by rfl) (x_build (vs := [(0, .int .i64 y22_1), (1, .int .i64 el52.Gen)]) (cs := [.int .i64 y22_1, .int .i64 el52.Gen]) (by rfl) (by kernel_rfl)) ?_
         refine RL_cons (O_buildSlice (vs := [(0, .agg #[.int .i64 y22_1, .int .i64 el52.Gen])]) (cs := [.int .i64 y22_1, .int .i64 el52.Gen]) (by exact wn0 rfl) (by rfl) sl87 sz81 ze81 (by rfl) (by rfl) (by rfl) (by kernel_rfl) H (fun w60 b59 (H : Sep ok w w60 [.blk b9 79 [.slice A1 a0.Arena.Slots.length cp2, .slice A5 a0.Kids.length cp6], .blk b11 81 [.int .i64 a1.Slot, .int .i64 a1.Gen], .row (.slice (some ⟨b13, 0, none⟩) ([a1]).length 1) 81 k_Handle.sz ([a1]).length [.int .i64 a1.Slot, .int .i64 a1.Gen], .row (.slice A_row57_2 l_row57_2.length c_row57_2) 81 k_Handle.sz l_row57_2.length cs_row57_2, .blk b49 81 [.int .i64 el42.Slot, .int .i64 el42.Gen], .blk b59 81 [.int .i64 y22_1, .int .i64 el52.Gen]] [RE.rd k_Slot A1 cp2 a0.Arena.Slots, RE.rd (Kd.slice k_Handle) A5 cp6 a0.Kids, RE.chunks k_Handle [.int .i64 a1.Slot, .int .i64 a1.Gen] ([a1]), RE.chunks k_Handle cs_row57_2 l_row57_2, RE.cells g28 (o29 + (y22_1).toNat * 1) [.slice A35 el23.length cp36], RE.rd k_Handle A35 cp36 el23]) => ?_))
         obtain ⟨l65, hl66, hb67, hm⟩ := apd_some hm
         refine RL_cons (O_append (D := k_Handle) (i := 3) (j := 3) (o := 0) (y := (⟨y22_1, el52.Gen⟩ : S_Handle)) (by exact wn0 rfl) (by rfl) (by rfl) (by rfl) H (by rfl) (by rfl) (H.cells (i := 5) (by rfl)) rfl hl66 sl87 sz81 by81 ze81 (by rfl) (by rfl) hb67 (by rfl) (fun w61 A62 cp63 cs64 (H : Sep ok w w61 [.blk b9 79 [.slice A1 a0.Arena.Slots.length cp2, .slice A5 a0.Kids.length cp6], .blk b11 81 [.int .i64 a1.Slot, .int .i64 a1.Gen], .row (.slice (some ⟨b13, 0, none⟩) ([a1]).length 1) 81 k_Handle.sz ([a1]).length [.int .i64 a1.Slot, .int .i64 a1.Gen], .row (.slice A62 l65.length cp63) 81 k_Handle.sz l65.length cs64, .blk b49 81 [.int .i64 el42.Slot, .int .i64 el42.Gen], .blk b59 81 [.int .i64 y22_1, .int .i64 el52.Gen]] [RE.rd k_Slot A1 cp2 a0.Arena.Slots, RE.rd (Kd.slice k_Handle) A5 cp6 a0.Kids, RE.chunks k_Handle [.int .i64 a1.Slot, .int .i64 a1.Gen] ([a1]), RE.chunks k_Handle cs64 l65, RE.cells g28 (o29 + (y22_1).toNat * 1) [.slice A35 el23.length cp36], RE.rd k_Handle A35 cp36 el23]) => ?_))
         refine RL_pure (by exact wn0 rfl) (by rfl) (by rfl) (x_assign (v := .slice A62 l65.length cp63) (by rfl)) ?_
         refine RL_nil ?_
         refine W_region ?_
         obtain ⟨x68, ex68, qx68, ux68, hm⟩ := ck_some hm
         refine RL_pure (by exact wn0 rfl) (by rfl) (by rfl) (x_add (by rfl) (by rfl) ux68) ?_
         refine RL_pure (by exact wn0 rfl) (by rfl) (by rfl) (x_move (v := .int .i64 x68) (by rfl)) ?_
         refine RL_nil ?_
         subst hrec2
         exact ⟨k2, Nat.lt_succ_self k2, l65, x68, A62, cp63, cs64, hm, ⟨rfl, rfl, rfl, rfl, rfl, rfl, rfl, rfl, rfl, rfl, trivial⟩, (H).takeL 4⟩
        ·have hm := cond_f hb hm
         refine W_skip ?_
         refine W_region ?_
         obtain ⟨x69, ex69, qx69, ux69, hm⟩ := ck_some hm
         refine RL_pure (by exact wn0 rfl) (by rfl) (by rfl) (x_add (by rfl) (by rfl) ux69) ?_
         refine RL_pure (by exact wn0 rfl) (by rfl) (by rfl) (x_move (v := .int .i64 x69) (by rfl)) ?_
         refine RL_nil ?_
         subst hrec2
         exact ⟨k2, Nat.lt_succ_self k2, l_row57_2, x69, A_row57_2, c_row57_2, cs_row57_2, hm, ⟨rfl, rfl, rfl, rfl, rfl, rfl, rfl, rfl, rfl, rfl, trivial⟩, (H).takeL 4⟩
       ·have hm := cond_f hb hm
        refine W_exit ?_
        refine W_region ?_
        obtain ⟨x70, ex70, qx70, ux70, hm⟩ := ck_some hm
        refine RL_pure (by exact wn0 rfl) (by rfl) (by rfl) (x_add (by rfl) (by rfl) ux70) ?_
        refine RL_pure (by exact wn0 rfl) (by rfl) (by rfl) (x_move (v := .int .i64 x70) (by rfl)) ?_
        refine RL_nil ?_
        subst hrec1
        exact ⟨k1, Nat.lt_succ_self k1, l_row57_2, x70, A_row57_2, c_row57_2, cs_row57_2, hm, ⟨rfl, rfl, rfl, rfl, rfl, rfl, trivial⟩, (H).pick [0, 1, 2, 3]⟩
    ·have hm := cond_f hb hm
     refine W_exit ?_
     refine W_seq ?_
     refine W_region ?_
     refine RL_pure (by exact wn0 rfl) (by rfl) (by rfl) (x_move (v := .slice A_row57_1 l_row57_1.length c_row57_1) (by rfl)) ?_
     refine RL_pure (by exact wn0 rfl) (by rfl) (by rfl) (x_assign (v := .slice A_row57_1 l_row57_1.length c_row57_1) (by rfl)) ?_
     refine RL_pure (by exact wn0 rfl) (by rfl) (by rfl) (x_assign (v := .int .i64 0) (by rfl)) ?_
     refine RL_nil ?_
     refine W_ret ?_
     have H : Sep ok w w22 [.blk b9 79 [.slice A1 a0.Arena.Slots.length cp2, .slice A5 a0.Kids.length cp6], .blk b11 81 [.int .i64 a1.Slot, .int .i64 a1.Gen], .row (.slice (some ⟨b13, 0, none⟩) ([a1]).length 1) 81 k_Handle.sz ([a1]).length [.int .i64 a1.Slot, .int .i64 a1.Gen], .hole] [RE.rd k_Slot A1 cp2 a0.Arena.Slots, RE.rd (Kd.slice k_Handle) A5 cp6 a0.Kids, RE.chunks k_Handle [.int .i64 a1.Slot, .int .i64 a1.Gen] ([a1]), RE.rd k_Handle A_row57_1 c_row57_1 l_row57_1] := H.frozen (i := 3) (j := 3) (by rfl) (by rfl)
     obtain rfl := Option.some.inj hm
     exact ⟨[.slice A_row57_1 l_row57_1.length c_row57_1, .int .i64 0], (.tmp (by rfl) (.tmp (by rfl) rfl)), A_row57_1, c_row57_1, rfl, (H.forgetAll).pick [3]⟩
end Go.Proofs.YtobkigllalbkiaaV.M

/- A plain Lean function that answers as the Go function does (none: not told), and the proof that a call answers so. Written by program. -/
set_option linter.unusedVariables false
namespace Go.Proofs.YtobkigllalbkiaaV.M
open Go.RowKit Go.Proofs.YtobkigllalbkiaaV
/-- diorama/dioramalaw06.alive -/
def m42 (K : Nat)  : Option (Bool) :=
 ((m37 K ).bind fun v2 => ((m39 K v2.1 v2.2.1.a0).bind fun v17 => ((m87 K v2.1 v2.2.1.a1).bind fun v23 => ((m46 K v2.1 v2.2.1.a0 v2.2.1.a2).bind fun v29 => ((m46 K v2.1 v2.2.1.a2 v2.2.1.a0).bind fun v32 => ((bif v2.2.2 then some (v17.2 == 0) else some false).bind fun b35 => ((bif b35 then some (v23.2 == 0) else some false).bind fun b38 => ((bif b38 then some (v29.2 == 0) else some false).bind fun b41 => ((bif b41 then some (v32.2 == 0) else some false).bind fun b44 => ((bif b44 then some ((v17.1.length : Int) == 2) else some false).bind fun b47 => ((bif b47 then (idx v17.1 0 fun el51 => some ((el51.Slot == v2.2.1.a1.Slot) && (el51.Gen == v2.2.1.a1.Gen))) else some false).bind fun b50 => ((bif b50 then some ((v23.1.length : Int) == 2) else some false).bind fun b60 => ((bif b60 then (idx v23.1 1 fun el64 => some ((el64.Slot == v2.2.1.a0.Slot) && (el64.Gen == v2.2.1.a0.Gen))) else some false).bind fun b63 => ((bif b63 then some v29.1 else some false).bind fun b73 => ((bif b73 then some (!v32.1) else some false).bind fun b76 => some b76)))))))))))))))
set_option maxRecDepth 100000 in
set_option maxHeartbeats 4000000 in
theorem c42 (ok : Okp) (K : Nat) (w : World)  (res : Bool) (hm : m42 K  = some res) :
  Calls Try.prog 42 #[] w (fun e w' => e = .returned (tup [.bool res]) ∧ Sep ok w w' [] []) := by
 refine calls_W (args := []) Try.func42 rfl Try.ntmps42 Try.results42 rfl fun r hr => ?_
 obtain ⟨r1, rfl⟩ : ∃ R, R = r := ⟨_, rfl⟩
 have H : Sep ok w w [] [] := Sep.start ok w
 unfold m42 at hm
 refine W_seq ?_
 refine W_region ?_
 refine RL_pure (by exact wn0 rfl) (by rfl) (by rfl) (x_assign (v := .bool false) (by rfl)) ?_
 refine RL_nil ?_
 refine W_seq ?_
 refine W_region ?_
 obtain ⟨v2, hv1, hm⟩ := bind_some hm
 refine RL_cons (O_call (by exact wn0 rfl) (by rfl) (by rfl) (x_callL (by rfl) (args := []) (by rfl) (cf37 _ _)) (c37 (okS ok w []) K w   v2 hv1) ?_)
 rintro e w3 ⟨A4, cp5, A7, cp8, rfl, H2⟩
 have H : Sep ok w w3 [] [RE.rd k_Slot A4 cp5 v2.1.Arena.Slots, RE.rd (Kd.slice k_Handle) A7 cp8 v2.1.Kids] := H.call H2
 clear H2
 refine ⟨_, rfl, ?_⟩
 show RL _ _ _ _ _ _ _
 refine RL_pure (by exact wn0 rfl) (by rfl) (by rfl) (x_move (v := tup [.agg #[.slice A4 v2.1.Arena.Slots.length cp5, .slice A7 v2.1.Kids.length cp8], .agg #[.int .i64 v2.2.1.a0.Slot, .int .i64 v2.2.1.a0.Gen, .int .i64 v2.2.1.a1.Slot, .int .i64 v2.2.1.a1.Gen, .int .i64 v2.2.1.a2.Slot, .int .i64 v2.2.1.a2.Gen], .bool v2.2.2]) (by rfl)) ?_
 refine RL_pure (by exact wn0 rfl) (by rfl) (by rfl) (x_extract (v := .agg #[.slice A4 v2.1.Arena.Slots.length cp5, .slice A7 v2.1.Kids.length cp8]) (by rfl) (by rfl)) ?_
 refine RL_pure (by exact wn0 rfl) (by rfl) (by rfl) (x_extract (v := .agg #[.int .i64 v2.2.1.a0.Slot, .int .i64 v2.2.1.a0.Gen, .int .i64 v2.2.1.a1.Slot, .int .i64 v2.2.1.a1.Gen, .int .i64 v2.2.1.a2.Slot, .int .i64 v2.2.1.a2.Gen]) (by rfl) (by rfl)) ?_
 refine RL_pure (by exact wn0 rfl) (by rfl) (by rfl) (x_extract (v := .bool v2.2.2) (by rfl) (by rfl)) ?_
 refine RL_cons (O_alloc (by exact wn0 rfl) (by rfl) ze79 (by rfl) H (fun w11 b10 (H : Sep ok w w11 [.blk b10 79 [.slice none 0 0, .slice none 0 0]] [RE.rd k_Slot A4 cp5 v2.1.Arena.Slots, RE.rd (Kd.slice k_Handle) A7 cp8 v2.1.Kids]) => ?_))
 refine RL_cons (O_alloc (by exact wn0 rfl) (by rfl) ze82 (by rfl) H (fun w13 b12 (H : Sep ok w w13 [.blk b10 79 [.slice none 0 0, .slice none 0 0], .blk b12 82 [.int .i64 0, .int .i64 0, .int .i64 0, .int .i64 0, .int .i64 0, .int .i64 0]] [RE.rd k_Slot A4 cp5 v2.1.Arena.Slots, RE.rd (Kd.slice k_Handle) A7 cp8 v2.1.Kids]) => ?_))
 refine RL_cons (O_store (i := 0) (off := 0) (by exact wn0 rfl) (by rfl) (by rfl) H (by rfl) (vs := [.slice A4 v2.1.Arena.Slots.length cp5, .slice A7 v2.1.Kids.length cp8]) (by rfl) sz79 (by rfl) (by rfl) (by rfl) (fun w14 (H : Sep ok w w14 [.blk b10 79 [.slice A4 v2.1.Arena.Slots.length cp5, .slice A7 v2.1.Kids.length cp8], .blk b12 82 [.int .i64 0, .int .i64 0, .int .i64 0, .int .i64 0, .int .i64 0, .int .i64 0]] [RE.rd k_Slot A4 cp5 v2.1.Arena.Slots, RE.rd (Kd.slice k_Handle) A7 cp8 v2.1.Kids]) => ?_))
 refine RL_cons (O_store (i := 1) (off := 0) (by exact wn0 rfl) (by rfl) (by rfl) H (by rfl) (vs := [.int .i64 v2.2.1.a0.Slot, .int .i64 v2.2.1.a0.Gen, .int .i64 v2.2.1.a1.Slot, .int .i64 v2.2.1.a1.Gen, .int .i64 v2.2.1.a2.Slot, .int .i64 v2.2.1.a2.Gen]) (by rfl) sz82 (by rfl) (by rfl) (by rfl) (fun w15 (H : Sep ok w w15 [.blk b10 79 [.slice A4 v2.1.Arena.Slots.length cp5, .slice A7 v2.1.Kids.length cp8], .blk b12 82 [.int .i64 v2.2.1.a0.Slot, .int .i64 v2.2.1.a0.Gen, .int .i64 v2.2.1.a1.Slot, .int .i64 v2.2.1.a1.Gen, .int .i64 v2.2.1.a2.Slot, .int .i64 v2.2.1.a2.Gen]] [RE.rd k_Slot A4 cp5 v2.1.Arena.Slots, RE.rd (Kd.slice k_Handle) A7 cp8 v2.1.Kids]) => ?_))
 refine RL_pure (by exact wn0 rfl) (by rfl) (by rfl) (x_assign (v := .bool v2.2.2) (by rfl)) ?_
 refine RL_nil ?_
 refine W_seq ?_
 refine W_region ?_
 refine RL_pure (by exact wn0 rfl) (by rfl) (by rfl) (x_loadA (j := 0) (vs := [.slice A4 v2.1.Arena.Slots.length cp5, .slice A7 v2.1.Kids.length cp8]) ag79 (by rfl) (H.cells (i := 0) (by rfl)) (by rfl) (by rfl)) ?_
 refine RL_pure (by exact wn0 rfl) (by rfl) (by rfl) (x_indexArr ar82 sz81 (by rfl) (by rfl) (by decide) (by decide)) ?_
 refine RL_pure (by exact wn0 rfl) (by rfl) (by rfl) (x_loadA (j := 0) (vs := [.int .i64 v2.2.1.a0.Slot, .int .i64 v2.2.1.a0.Gen]) ag81 (by rfl) (H.cells (i := 1) (by rfl)) (by rfl) (by rfl)) ?_
 obtain ⟨v17, hv16, hm⟩ := bind_some hm
 refine RL_cons (O_call (by exact wn0 rfl) (by rfl) (by rfl) (x_callL (by rfl) (args := [.agg #[.slice A4 v2.1.Arena.Slots.length cp5, .slice A7 v2.1.Kids.length cp8], .agg #[.int .i64 v2.2.1.a0.Slot, .int .i64 v2.2.1.a0.Gen]]) (by rfl) (cf39 _ _)) (c39 (okS ok w [.blk b10 79 [.slice A4 v2.1.Arena.Slots.length cp5, .slice A7 v2.1.Kids.length cp8], .blk b12 82 [.int .i64 v2.2.1.a0.Slot, .int .i64 v2.2.1.a0.Gen, .int .i64 v2.2.1.a1.Slot, .int .i64 v2.2.1.a1.Gen, .int .i64 v2.2.1.a2.Slot, .int .i64 v2.2.1.a2.Gen]]) K w15 v2.1 A4 cp5 A7 cp8 v2.2.1.a0 (H.rd (i := 0) (by rfl)) (H.rd (i := 1) (by rfl)) v17 hv16) ?_)
 rintro e w18 ⟨A19, cp20, rfl, H2⟩
 have H : Sep ok w w18 [.blk b10 79 [.slice A4 v2.1.Arena.Slots.length cp5, .slice A7 v2.1.Kids.length cp8], .blk b12 82 [.int .i64 v2.2.1.a0.Slot, .int .i64 v2.2.1.a0.Gen, .int .i64 v2.2.1.a1.Slot, .int .i64 v2.2.1.a1.Gen, .int .i64 v2.2.1.a2.Slot, .int .i64 v2.2.1.a2.Gen]] [RE.rd k_Slot A4 cp5 v2.1.Arena.Slots, RE.rd (Kd.slice k_Handle) A7 cp8 v2.1.Kids, RE.rd k_Handle A19 cp20 v17.1] := H.call H2
 clear H2
 refine ⟨_, rfl, ?_⟩
 show RL _ _ _ _ _ _ _
 refine RL_pure (by exact wn0 rfl) (by rfl) (by rfl) (x_move (v := tup [.slice A19 v17.1.length cp20, .int .i64 v17.2]) (by rfl)) ?_
 refine RL_pure (by exact wn0 rfl) (by rfl) (by rfl) (x_extract (v := .slice A19 v17.1.length cp20) (by rfl) (by rfl)) ?_
 refine RL_pure (by exact wn0 rfl) (by rfl) (by rfl) (x_extract (v := .int .i64 v17.2) (by rfl) (by rfl)) ?_
 refine RL_pure (by exact wn0 rfl) (by rfl) (by rfl) (x_assign (v := .slice A19 v17.1.length cp20) (by rfl)) ?_
 refine RL_pure (by exact wn0 rfl) (by rfl) (by rfl) (x_assign (v := .int .i64 v17.2) (by rfl)) ?_
 refine RL_nil ?_
 refine W_seq ?_
 refine W_region ?_
 refine RL_pure (by exact wn0 rfl) (by rfl) (by rfl) (x_loadA (j := 0) (vs := [.slice A4 v2.1.Arena.Slots.length cp5, .slice A7 v2.1.Kids.length cp8]) ag79 (by rfl) (H.cells (i := 0) (by rfl)) (by rfl) (by rfl)) ?_
 refine RL_pure (by exact wn0 rfl) (by rfl) (by rfl) (x_indexArr ar82 sz81 (by rfl) (by rfl) (by decide) (by decide)) ?_
 refine RL_pure (by exact wn0 rfl) (by rfl) (by rfl) (x_loadA (j := 2) (vs := [.int .i64 v2.2.1.a1.Slot, .int .i64 v2.2.1.a1.Gen]) ag81 (by rfl) (H.cells (i := 1) (by rfl)) (by rfl) (by rfl)) ?_
 obtain ⟨v23, hv22, hm⟩ := bind_some hm
 refine RL_cons (O_call (by exact wn0 rfl) (by rfl) (by rfl) (x_callL (by rfl) (args := [.agg #[.slice A4 v2.1.Arena.Slots.length cp5, .slice A7 v2.1.Kids.length cp8], .agg #[.int .i64 v2.2.1.a1.Slot, .int .i64 v2.2.1.a1.Gen]]) (by rfl) (cf87 _ _)) (c87 (okS ok w [.blk b10 79 [.slice A4 v2.1.Arena.Slots.length cp5, .slice A7 v2.1.Kids.length cp8], .blk b12 82 [.int .i64 v2.2.1.a0.Slot, .int .i64 v2.2.1.a0.Gen, .int .i64 v2.2.1.a1.Slot, .int .i64 v2.2.1.a1.Gen, .int .i64 v2.2.1.a2.Slot, .int .i64 v2.2.1.a2.Gen]]) K w18 v2.1 A4 cp5 A7 cp8 v2.2.1.a1 (H.rd (i := 0) (by rfl)) (H.rd (i := 1) (by rfl)) v23 hv22) ?_)
 rintro e w24 ⟨A25, cp26, rfl, H2⟩
 have H : Sep ok w w24 [.blk b10 79 [.slice A4 v2.1.Arena.Slots.length cp5, .slice A7 v2.1.Kids.length cp8], .blk b12 82 [.int .i64 v2.2.1.a0.Slot, .int .i64 v2.2.1.a0.Gen, .int .i64 v2.2.1.a1.Slot, .int .i64 v2.2.1.a1.Gen, .int .i64 v2.2.1.a2.Slot, .int .i64 v2.2.1.a2.Gen]] [RE.rd k_Slot A4 cp5 v2.1.Arena.Slots, RE.rd (Kd.slice k_Handle) A7 cp8 v2.1.Kids, RE.rd k_Handle A19 cp20 v17.1, RE.rd k_Handle A25 cp26 v23.1] := H.call H2
 clear H2
 refine ⟨_, rfl, ?_⟩
 show RL _ _ _ _ _ _ _
 refine RL_pure (by exact wn0 rfl) (by rfl) (by rfl) (x_move (v := tup [.slice A25 v23.1.length cp26, .int .i64 v23.2]) (by rfl)) ?_
 refine RL_pure (by exact wn0 rfl) (by rfl) (by rfl) (x_extract (v := .slice A25 v23.1.length cp26) (by rfl) (by rfl)) ?_
 refine RL_pure (by exact wn0 rfl) (by rfl) (by rfl) (x_extract (v := .int .i64 v23.2) (by rfl) (by rfl)) ?_
 refine RL_pure (by exact wn0 rfl) (by rfl) (by rfl) (x_assign (v := .slice A25 v23.1.length cp26) (by rfl)) ?_
 refine RL_pure (by exact wn0 rfl) (by rfl) (by rfl) (x_assign (v := .int .i64 v23.2) (by rfl)) ?_
 refine RL_nil ?_
 refine W_seq ?_
 refine W_region ?_
 refine RL_pure (by exact wn0 rfl) (by rfl) (by rfl) (x_loadA (j := 0) (vs := [.slice A4 v2.1.Arena.Slots.length cp5, .slice A7 v2.1.Kids.length cp8]) ag79 (by rfl) (H.cells (i := 0) (by rfl)) (by rfl) (by rfl)) ?_
 refine RL_pure (by exact wn0 rfl) (by rfl) (by rfl) (x_indexArr ar82 sz81 (by rfl) (by rfl) (by decide) (by decide)) ?_
 refine RL_pure (by exact wn0 rfl) (by rfl) (by rfl) (x_loadA (j := 0) (vs := [.int .i64 v2.2.1.a0.Slot, .int .i64 v2.2.1.a0.Gen]) ag81 (by rfl) (H.cells (i := 1) (by rfl)) (by rfl) (by rfl)) ?_
 refine RL_pure (by exact wn0 rfl) (by rfl) (by rfl) (x_indexArr ar82 sz81 (by rfl) (by rfl) (by decide) (by decide)) ?_
 refine RL_pure (by exact wn0 rfl) (by rfl) (by rfl) (x_loadA (j := 4) (vs := [.int .i64 v2.2.1.a2.Slot, .int .i64 v2.2.1.a2.Gen]) ag81 (by rfl) (H.cells (i := 1) (by rfl)) (by rfl) (by rfl)) ?_
 obtain ⟨v29, hv28, hm⟩ := bind_some hm
 refine RL_cons (O_call (by exact wn0 rfl) (by rfl) (by rfl) (x_callL (by rfl) (args := [.agg #[.slice A4 v2.1.Arena.Slots.length cp5, .slice A7 v2.1.Kids.length cp8], .agg #[.int .i64 v2.2.1.a0.Slot, .int .i64 v2.2.1.a0.Gen], .agg #[.int .i64 v2.2.1.a2.Slot, .int .i64 v2.2.1.a2.Gen]]) (by rfl) (cf46 _ _)) (c46 okT K w24 v2.1 A4 cp5 A7 cp8 v2.2.1.a0 v2.2.1.a2 (H.rd (i := 0) (by rfl)).any (H.rd (i := 1) (by rfl)).any v29 hv28) ?_)
 rintro e w30 ⟨rfl, H2⟩
 have H : Sep ok w w30 [.blk b10 79 [.slice A4 v2.1.Arena.Slots.length cp5, .slice A7 v2.1.Kids.length cp8], .blk b12 82 [.int .i64 v2.2.1.a0.Slot, .int .i64 v2.2.1.a0.Gen, .int .i64 v2.2.1.a1.Slot, .int .i64 v2.2.1.a1.Gen, .int .i64 v2.2.1.a2.Slot, .int .i64 v2.2.1.a2.Gen]] [RE.rd k_Slot A4 cp5 v2.1.Arena.Slots, RE.rd (Kd.slice k_Handle) A7 cp8 v2.1.Kids, RE.rd k_Handle A19 cp20 v17.1, RE.rd k_Handle A25 cp26 v23.1] := H.below H2.base
 clear H2
 refine ⟨_, rfl, ?_⟩
 show RL _ _ _ _ _ _ _
 refine RL_pure (by exact wn0 rfl) (by rfl) (by rfl) (x_move (v := tup [.bool v29.1, .int .i64 v29.2]) (by rfl)) ?_
 refine RL_pure (by exact wn0 rfl) (by rfl) (by rfl) (x_extract (v := .bool v29.1) (by rfl) (by rfl)) ?_
 refine RL_pure (by exact wn0 rfl) (by rfl) (by rfl) (x_extract (v := .int .i64 v29.2) (by rfl) (by rfl)) ?_
 refine RL_pure (by exact wn0 rfl) (by rfl) (by rfl) (x_assign (v := .bool v29.1) (by rfl)) ?_
 refine RL_pure (by exact wn0 rfl) (by rfl) (by rfl) (x_assign (v := .int .i64 v29.2) (by rfl)) ?_
 refine RL_nil ?_
 refine W_seq ?_
 refine W_region ?_
 refine RL_pure (by exact wn0 rfl) (by rfl) (by rfl) (x_loadA (j := 0) (vs := [.slice A4 v2.1.Arena.Slots.length cp5, .slice A7 v2.1.Kids.length cp8]) ag79 (by rfl) (H.cells (i := 0) (by rfl)) (by rfl) (by rfl)) ?_
 refine RL_pure (by exact wn0 rfl) (by rfl) (by rfl) (x_indexArr ar82 sz81 (by rfl) (by rfl) (by decide) (by decide)) ?_
 refine RL_pure (by exact wn0 rfl) (by rfl) (by rfl) (x_loadA (j := 4) (vs := [.int .i64 v2.2.1.a2.Slot, .int .i64 v2.2.1.a2.Gen]) ag81 (by rfl) (H.cells (i := 1) (by rfl)) (by rfl) (by rfl)) ?_
 refine RL_pure (by exact wn0 rfl) (by rfl) (by rfl) (x_indexArr ar82 sz81 (by rfl) (by rfl) (by decide) (by decide)) ?_
 refine RL_pure (by exact wn0 rfl) (by rfl) (by rfl) (x_loadA (j := 0) (vs := [.int .i64 v2.2.1.a0.Slot, .int .i64 v2.2.1.a0.Gen]) ag81 (by rfl) (H.cells (i := 1) (by rfl)) (by rfl) (by rfl)) ?_
 obtain ⟨v32, hv31, hm⟩ := bind_some hm
 refine RL_cons (O_call (by exact wn0 rfl) (by rfl) (by rfl) (x_callL (by rfl) (args := [.agg #[.slice A4 v2.1.Arena.Slots.length cp5, .slice A7 v2.1.Kids.length cp8], .agg #[.int .i64 v2.2.1.a2.Slot, .int .i64 v2.2.1.a2.Gen], .agg #[.int .i64 v2.2.1.a0.Slot, .int .i64 v2.2.1.a0.Gen]]) (by rfl) (cf46 _ _)) (c46 okT K w30 v2.1 A4 cp5 A7 cp8 v2.2.1.a2 v2.2.1.a0 (H.rd (i := 0) (by rfl)).any (H.rd (i := 1) (by rfl)).any v32 hv31) ?_)
 rintro e w33 ⟨rfl, H2⟩
 have H : Sep ok w w33 [.blk b10 79 [.slice A4 v2.1.Arena.Slots.length cp5, .slice A7 v2.1.Kids.length cp8], .blk b12 82 [.int .i64 v2.2.1.a0.Slot, .int .i64 v2.2.1.a0.Gen, .int .i64 v2.2.1.a1.Slot, .int .i64 v2.2.1.a1.Gen, .int .i64 v2.2.1.a2.Slot, .int .i64 v2.2.1.a2.Gen]] [RE.rd k_Slot A4 cp5 v2.1.Arena.Slots, RE.rd (Kd.slice k_Handle) A7 cp8 v2.1.Kids, RE.rd k_Handle A19 cp20 v17.1, RE.rd k_Handle A25 cp26 v23.1] := H.below H2.base
 clear H2
 refine ⟨_, rfl, ?_⟩
 show RL _ _ _ _ _ _ _
 refine RL_pure (by exact wn0 rfl) (by rfl) (by rfl) (x_move (v := tup [.bool v32.1, .int .i64 v32.2]) (by rfl)) ?_
 refine RL_pure (by exact wn0 rfl) (by rfl) (by rfl) (x_extract (v := .bool v32.1) (by rfl) (by rfl)) ?_
 refine RL_pure (by exact wn0 rfl) (by rfl) (by rfl) (x_extract (v := .int .i64 v32.2) (by rfl) (by rfl)) ?_
 refine RL_pure (by exact wn0 rfl) (by rfl) (by rfl) (x_assign (v := .bool v32.1) (by rfl)) ?_
 refine RL_pure (by exact wn0 rfl) (by rfl) (by rfl) (x_assign (v := .int .i64 v32.2) (by rfl)) ?_
 refine RL_nil ?_
 refine W_seq ?_
 refine W_draw [.free 0, .free 1, .free 2, .free 3, .free 4, .free 5, .free 6, .free 7, .free 8, .free 9, .free 10, .free 11, .free 12, .free 13, .free 14, .free 15, .free 16, .free 17, .free 18, .free 19, .free 20, .free 21, .free 22, .free 23, .free 24, .take 25, .free 26, .take 27, .free 28, .free 29, .free 30, .free 31, .free 32, .free 33, .free 34, .free 35, .free 36, .free 37, .take 38, .free 39, .take 40, .free 41, .free 42, .free 43, .free 44, .free 45, .free 46, .free 47, .free 48, .free 49, .free 50] (fun wS => Sep ok w wS [.blk b10 79 [.slice A4 v2.1.Arena.Slots.length cp5, .slice A7 v2.1.Kids.length cp8], .blk b12 82 [.int .i64 v2.2.1.a0.Slot, .int .i64 v2.2.1.a0.Gen, .int .i64 v2.2.1.a1.Slot, .int .i64 v2.2.1.a1.Gen, .int .i64 v2.2.1.a2.Slot, .int .i64 v2.2.1.a2.Gen]] [RE.rd k_Slot A4 cp5 v2.1.Arena.Slots, RE.rd (Kd.slice k_Handle) A7 cp8 v2.1.Kids, RE.rd k_Handle A19 cp20 v17.1, RE.rd k_Handle A25 cp26 v23.1]) [] [0, 1, 2, 3, 4, 5, 6, 7, 8, 9, 10, 11, 12, 13, 14, 15, 16, 17, 18, 19, 20, 21, 22, 23, 24, 26, 28, 29, 30, 31, 32, 33, 34, 35, 36, 37, 39, 41, 42, 43, 44, 45, 46, 47, 48, 49, 50] mixed0 (by kernel_rfl) (by kernel_rfl) (by kernel_rfl) (by rfl) (by exact H.drew) ?_
 obtain ⟨w34, hW⟩ : ∃ W : World, W = { w33 with drawn := w33.drawn + 1 } := ⟨_, rfl⟩
 rw [← hW]
 have H : Sep ok w w34 [.blk b10 79 [.slice A4 v2.1.Arena.Slots.length cp5, .slice A7 v2.1.Kids.length cp8], .blk b12 82 [.int .i64 v2.2.1.a0.Slot, .int .i64 v2.2.1.a0.Gen, .int .i64 v2.2.1.a1.Slot, .int .i64 v2.2.1.a1.Gen, .int .i64 v2.2.1.a2.Slot, .int .i64 v2.2.1.a2.Gen]] [RE.rd k_Slot A4 cp5 v2.1.Arena.Slots, RE.rd (Kd.slice k_Handle) A7 cp8 v2.1.Kids, RE.rd k_Handle A19 cp20 v17.1, RE.rd k_Handle A25 cp26 v23.1] := by rw [hW]; exact H.drew
 clear hW
 refine PR_free (by rfl) (by rfl) (by rfl) (by exact wn0 rfl) (fun wS => (x_move (v := .bool v2.2.2) (by rfl))) ?_
 refine PR_free (by rfl) (by rfl) (by rfl) (by exact wn0 rfl) (fun wS => (x_move (v := .bool v2.2.2) (by rfl))) ?_
 obtain ⟨b35, hmS, hm⟩ := bind_some hm
 refine PR_cut 3 (fun r' w' => Agr [(53, .bool b35), (2, .pointer (some ⟨b12, 0, none⟩)), (4, .slice A19 v17.1.length cp20), (6, .slice A25 v23.1.length cp26), (7, .int .i64 v23.2), (8, .bool v29.1), (9, .int .i64 v29.2), (10, .bool v32.1), (11, .int .i64 v32.2)] r' ∧ Sep ok w w' [.blk b10 79 [.slice A4 v2.1.Arena.Slots.length cp5, .slice A7 v2.1.Kids.length cp8], .blk b12 82 [.int .i64 v2.2.1.a0.Slot, .int .i64 v2.2.1.a0.Gen, .int .i64 v2.2.1.a1.Slot, .int .i64 v2.2.1.a1.Gen, .int .i64 v2.2.1.a2.Slot, .int .i64 v2.2.1.a2.Gen]] [RE.rd k_Slot A4 cp5 v2.1.Arena.Slots, RE.rd (Kd.slice k_Handle) A7 cp8 v2.1.Kids, RE.rd k_Handle A19 cp20 v17.1, RE.rd k_Handle A25 cp26 v23.1]) ?_ ?_
 ·cases hbS : v2.2.2
  ·have hm := cond_f hbS hmS
   refine PR_offF (by rfl) (by rfl) (by rfl) (by exact wn2 rfl rfl rfl rfl) ?_
   refine PR_offF (by rfl) (by rfl) (by rfl) (by exact wn2 rfl rfl rfl rfl) ?_
   refine PR_free (by rfl) (by rfl) (by rfl) (by exact wn0 rfl) (fun wS => (x_pick_f (v := .bool false) (by rfl) (by rfl))) ?_
   refine PR_nil ?_
   exact ⟨⟨congrArg Value.bool (Option.some.inj hm), rfl, rfl, rfl, rfl, rfl, rfl, rfl, rfl, trivial⟩, H⟩
  ·have hm := cond_t hbS hmS
   refine PR_free (by rfl) (by rfl) (by rfl) (by exact wn1 rfl rfl rfl rfl) (fun wS => (x_move (v := .int .i64 v17.2) (by rfl))) ?_
   refine PR_free (by rfl) (by rfl) (by rfl) (by exact wn1 rfl rfl rfl rfl) (fun wS => (x_eql (by rfl) (by rfl))) ?_
   refine PR_free (by rfl) (by rfl) (by rfl) (by exact wn0 rfl) (fun wS => (x_pick_t (v := .bool (v17.2 == 0)) (by rfl) (by rfl))) ?_
   refine PR_nil ?_
   exact ⟨⟨congrArg Value.bool (Option.some.inj hm), rfl, rfl, rfl, rfl, rfl, rfl, rfl, rfl, trivial⟩, H⟩
 ·rintro r' w' ⟨hA, H⟩
  obtain ⟨r36, rfl⟩ := regen _ hA; clear hA
  obtain ⟨w37, rfl⟩ : ∃ W : World, W = w' := ⟨_, rfl⟩
  show PR _ _ _ _ _ _ _ _
  refine PR_free (by rfl) (by rfl) (by rfl) (by exact wn0 rfl) (fun wS => (x_move (v := .bool b35) (by rfl))) ?_
  obtain ⟨b38, hmS, hm⟩ := bind_some hm
  refine PR_cut 3 (fun r' w' => Agr [(57, .bool b38), (2, .pointer (some ⟨b12, 0, none⟩)), (4, .slice A19 v17.1.length cp20), (6, .slice A25 v23.1.length cp26), (8, .bool v29.1), (9, .int .i64 v29.2), (10, .bool v32.1), (11, .int .i64 v32.2)] r' ∧ Sep ok w w' [.blk b10 79 [.slice A4 v2.1.Arena.Slots.length cp5, .slice A7 v2.1.Kids.length cp8], .blk b12 82 [.int .i64 v2.2.1.a0.Slot, .int .i64 v2.2.1.a0.Gen, .int .i64 v2.2.1.a1.Slot, .int .i64 v2.2.1.a1.Gen, .int .i64 v2.2.1.a2.Slot, .int .i64 v2.2.1.a2.Gen]] [RE.rd k_Slot A4 cp5 v2.1.Arena.Slots, RE.rd (Kd.slice k_Handle) A7 cp8 v2.1.Kids, RE.rd k_Handle A19 cp20 v17.1, RE.rd k_Handle A25 cp26 v23.1]) ?_ ?_
  ·cases hbS : b35
   ·have hm := cond_f hbS hmS
    refine PR_offF (by rfl) (by rfl) (by rfl) (by exact wn2 rfl rfl rfl rfl) ?_
    refine PR_offF (by rfl) (by rfl) (by rfl) (by exact wn2 rfl rfl rfl rfl) ?_
    refine PR_free (by rfl) (by rfl) (by rfl) (by exact wn0 rfl) (fun wS => (x_pick_f (v := .bool false) (by rfl) (by rfl))) ?_
    refine PR_nil ?_
    exact ⟨⟨congrArg Value.bool (Option.some.inj hm), rfl, rfl, rfl, rfl, rfl, rfl, rfl, trivial⟩, H⟩
   ·have hm := cond_t hbS hmS
    refine PR_free (by rfl) (by rfl) (by rfl) (by exact wn1 rfl rfl rfl rfl) (fun wS => (x_move (v := .int .i64 v23.2) (by rfl))) ?_
    refine PR_free (by rfl) (by rfl) (by rfl) (by exact wn1 rfl rfl rfl rfl) (fun wS => (x_eql (by rfl) (by rfl))) ?_
    refine PR_free (by rfl) (by rfl) (by rfl) (by exact wn0 rfl) (fun wS => (x_pick_t (v := .bool (v23.2 == 0)) (by rfl) (by rfl))) ?_
    refine PR_nil ?_
    exact ⟨⟨congrArg Value.bool (Option.some.inj hm), rfl, rfl, rfl, rfl, rfl, rfl, rfl, trivial⟩, H⟩
  ·rintro r' w' ⟨hA, H⟩
   obtain ⟨r39, rfl⟩ := regen _ hA; clear hA
   obtain ⟨w40, rfl⟩ : ∃ W : World, W = w' := ⟨_, rfl⟩
   show PR _ _ _ _ _ _ _ _
   refine PR_free (by rfl) (by rfl) (by rfl) (by exact wn0 rfl) (fun wS => (x_move (v := .bool b38) (by rfl))) ?_
   obtain ⟨b41, hmS, hm⟩ := bind_some hm
   refine PR_cut 3 (fun r' w' => Agr [(61, .bool b41), (2, .pointer (some ⟨b12, 0, none⟩)), (4, .slice A19 v17.1.length cp20), (6, .slice A25 v23.1.length cp26), (8, .bool v29.1), (10, .bool v32.1), (11, .int .i64 v32.2)] r' ∧ Sep ok w w' [.blk b10 79 [.slice A4 v2.1.Arena.Slots.length cp5, .slice A7 v2.1.Kids.length cp8], .blk b12 82 [.int .i64 v2.2.1.a0.Slot, .int .i64 v2.2.1.a0.Gen, .int .i64 v2.2.1.a1.Slot, .int .i64 v2.2.1.a1.Gen, .int .i64 v2.2.1.a2.Slot, .int .i64 v2.2.1.a2.Gen]] [RE.rd k_Slot A4 cp5 v2.1.Arena.Slots, RE.rd (Kd.slice k_Handle) A7 cp8 v2.1.Kids, RE.rd k_Handle A19 cp20 v17.1, RE.rd k_Handle A25 cp26 v23.1]) ?_ ?_
   ·cases hbS : b38
    ·have hm := cond_f hbS hmS
     refine PR_offF (by rfl) (by rfl) (by rfl) (by exact wn2 rfl rfl rfl rfl) ?_
     refine PR_offF (by rfl) (by rfl) (by rfl) (by exact wn2 rfl rfl rfl rfl) ?_
     refine PR_free (by rfl) (by rfl) (by rfl) (by exact wn0 rfl) (fun wS => (x_pick_f (v := .bool false) (by rfl) (by rfl))) ?_
     refine PR_nil ?_
     exact ⟨⟨congrArg Value.bool (Option.some.inj hm), rfl, rfl, rfl, rfl, rfl, rfl, trivial⟩, H⟩
    ·have hm := cond_t hbS hmS
     refine PR_free (by rfl) (by rfl) (by rfl) (by exact wn1 rfl rfl rfl rfl) (fun wS => (x_move (v := .int .i64 v29.2) (by rfl))) ?_
     refine PR_free (by rfl) (by rfl) (by rfl) (by exact wn1 rfl rfl rfl rfl) (fun wS => (x_eql (by rfl) (by rfl))) ?_
     refine PR_free (by rfl) (by rfl) (by rfl) (by exact wn0 rfl) (fun wS => (x_pick_t (v := .bool (v29.2 == 0)) (by rfl) (by rfl))) ?_
     refine PR_nil ?_
     exact ⟨⟨congrArg Value.bool (Option.some.inj hm), rfl, rfl, rfl, rfl, rfl, rfl, trivial⟩, H⟩
   ·rintro r' w' ⟨hA, H⟩
    obtain ⟨r42, rfl⟩ := regen _ hA; clear hA
    obtain ⟨w43, rfl⟩ : ∃ W : World, W = w' := ⟨_, rfl⟩
    show PR _ _ _ _ _ _ _ _
    refine PR_free (by rfl) (by rfl) (by rfl) (by exact wn0 rfl) (fun wS => (x_move (v := .bool b41) (by rfl))) ?_
    obtain ⟨b44, hmS, hm⟩ := bind_some hm
    refine PR_cut 3 (fun r' w' => Agr [(65, .bool b44), (2, .pointer (some ⟨b12, 0, none⟩)), (4, .slice A19 v17.1.length cp20), (6, .slice A25 v23.1.length cp26), (8, .bool v29.1), (10, .bool v32.1)] r' ∧ Sep ok w w' [.blk b10 79 [.slice A4 v2.1.Arena.Slots.length cp5, .slice A7 v2.1.Kids.length cp8], .blk b12 82 [.int .i64 v2.2.1.a0.Slot, .int .i64 v2.2.1.a0.Gen, .int .i64 v2.2.1.a1.Slot, .int .i64 v2.2.1.a1.Gen, .int .i64 v2.2.1.a2.Slot, .int .i64 v2.2.1.a2.Gen]] [RE.rd k_Slot A4 cp5 v2.1.Arena.Slots, RE.rd (Kd.slice k_Handle) A7 cp8 v2.1.Kids, RE.rd k_Handle A19 cp20 v17.1, RE.rd k_Handle A25 cp26 v23.1]) ?_ ?_
    ·cases hbS : b41
     ·have hm := cond_f hbS hmS
      refine PR_offF (by rfl) (by rfl) (by rfl) (by exact wn2 rfl rfl rfl rfl) ?_
      refine PR_offF (by rfl) (by rfl) (by rfl) (by exact wn2 rfl rfl rfl rfl) ?_
      refine PR_free (by rfl) (by rfl) (by rfl) (by exact wn0 rfl) (fun wS => (x_pick_f (v := .bool false) (by rfl) (by rfl))) ?_
      refine PR_nil ?_
      exact ⟨⟨congrArg Value.bool (Option.some.inj hm), rfl, rfl, rfl, rfl, rfl, trivial⟩, H⟩
     ·have hm := cond_t hbS hmS
      refine PR_free (by rfl) (by rfl) (by rfl) (by exact wn1 rfl rfl rfl rfl) (fun wS => (x_move (v := .int .i64 v32.2) (by rfl))) ?_
      refine PR_free (by rfl) (by rfl) (by rfl) (by exact wn1 rfl rfl rfl rfl) (fun wS => (x_eql (by rfl) (by rfl))) ?_
      refine PR_free (by rfl) (by rfl) (by rfl) (by exact wn0 rfl) (fun wS => (x_pick_t (v := .bool (v32.2 == 0)) (by rfl) (by rfl))) ?_
      refine PR_nil ?_
      exact ⟨⟨congrArg Value.bool (Option.some.inj hm), rfl, rfl, rfl, rfl, rfl, trivial⟩, H⟩
    ·rintro r' w' ⟨hA, H⟩
     obtain ⟨r45, rfl⟩ := regen _ hA; clear hA
     obtain ⟨w46, rfl⟩ : ∃ W : World, W = w' := ⟨_, rfl⟩
     show PR _ _ _ _ _ _ _ _
     refine PR_free (by rfl) (by rfl) (by rfl) (by exact wn0 rfl) (fun wS => (x_move (v := .bool b44) (by rfl))) ?_
     obtain ⟨b47, hmS, hm⟩ := bind_some hm
     refine PR_cut 4 (fun r' w' => Agr [(70, .bool b47), (2, .pointer (some ⟨b12, 0, none⟩)), (4, .slice A19 v17.1.length cp20), (6, .slice A25 v23.1.length cp26), (8, .bool v29.1), (10, .bool v32.1)] r' ∧ Sep ok w w' [.blk b10 79 [.slice A4 v2.1.Arena.Slots.length cp5, .slice A7 v2.1.Kids.length cp8], .blk b12 82 [.int .i64 v2.2.1.a0.Slot, .int .i64 v2.2.1.a0.Gen, .int .i64 v2.2.1.a1.Slot, .int .i64 v2.2.1.a1.Gen, .int .i64 v2.2.1.a2.Slot, .int .i64 v2.2.1.a2.Gen]] [RE.rd k_Slot A4 cp5 v2.1.Arena.Slots, RE.rd (Kd.slice k_Handle) A7 cp8 v2.1.Kids, RE.rd k_Handle A19 cp20 v17.1, RE.rd k_Handle A25 cp26 v23.1]) ?_ ?_
     ·cases hbS : b44
      ·have hm := cond_f hbS hmS
       refine PR_offF (by rfl) (by rfl) (by rfl) (by exact wn2 rfl rfl rfl rfl) ?_
       refine PR_offF (by rfl) (by rfl) (by rfl) (by exact wn2 rfl rfl rfl rfl) ?_
       refine PR_offF (by rfl) (by rfl) (by rfl) (by exact wn2 rfl rfl rfl rfl) ?_
       refine PR_free (by rfl) (by rfl) (by rfl) (by exact wn0 rfl) (fun wS => (x_pick_f (v := .bool false) (by rfl) (by rfl))) ?_
       refine PR_nil ?_
       exact ⟨⟨congrArg Value.bool (Option.some.inj hm), rfl, rfl, rfl, rfl, rfl, trivial⟩, H⟩
      ·have hm := cond_t hbS hmS
       refine PR_free (by rfl) (by rfl) (by rfl) (by exact wn1 rfl rfl rfl rfl) (fun wS => (x_move (v := .slice A19 v17.1.length cp20) (by rfl))) ?_
       refine PR_free (by rfl) (by rfl) (by rfl) (by exact wn1 rfl rfl rfl rfl) (fun wS => (x_len sl87 (by rfl))) ?_
       refine PR_free (by rfl) (by rfl) (by rfl) (by exact wn1 rfl rfl rfl rfl) (fun wS => (x_eql (by rfl) (by rfl))) ?_
       refine PR_free (by rfl) (by rfl) (by rfl) (by exact wn0 rfl) (fun wS => (x_pick_t (v := .bool ((v17.1.length : Int) == 2)) (by rfl) (by rfl))) ?_
       refine PR_nil ?_
       exact ⟨⟨congrArg Value.bool (Option.some.inj hm), rfl, rfl, rfl, rfl, rfl, trivial⟩, H⟩
     ·rintro r' w' ⟨hA, H⟩
      obtain ⟨r48, rfl⟩ := regen _ hA; clear hA
      obtain ⟨w49, rfl⟩ : ∃ W : World, W = w' := ⟨_, rfl⟩
      show PR _ _ _ _ _ _ _ _
      refine PR_free (by rfl) (by rfl) (by rfl) (by exact wn0 rfl) (fun wS => (x_move (v := .bool b47) (by rfl))) ?_
      obtain ⟨b50, hmS, hm⟩ := bind_some hm
      refine PR_cut 7 (fun r' w' => Agr [(78, .bool b50), (2, .pointer (some ⟨b12, 0, none⟩)), (6, .slice A25 v23.1.length cp26), (8, .bool v29.1), (10, .bool v32.1)] r' ∧ Sep ok w w' [.blk b10 79 [.slice A4 v2.1.Arena.Slots.length cp5, .slice A7 v2.1.Kids.length cp8], .blk b12 82 [.int .i64 v2.2.1.a0.Slot, .int .i64 v2.2.1.a0.Gen, .int .i64 v2.2.1.a1.Slot, .int .i64 v2.2.1.a1.Gen, .int .i64 v2.2.1.a2.Slot, .int .i64 v2.2.1.a2.Gen]] [RE.rd k_Slot A4 cp5 v2.1.Arena.Slots, RE.rd (Kd.slice k_Handle) A7 cp8 v2.1.Kids, RE.rd k_Handle A19 cp20 v17.1, RE.rd k_Handle A25 cp26 v23.1]) ?_ ?_
      ·cases hbS : b47
       ·have hm := cond_f hbS hmS
        refine PR_offF (by rfl) (by rfl) (by rfl) (by exact wn2 rfl rfl rfl rfl) ?_
        refine PR_offF (by rfl) (by rfl) (by rfl) (by exact wn2 rfl rfl rfl rfl) ?_
        refine PR_off (by rfl) (by rfl) (by rfl) (by exact wn2 rfl rfl rfl rfl) ?_
        refine PR_offF (by rfl) (by rfl) (by rfl) (by exact wn2 rfl rfl rfl rfl) ?_
        refine PR_off (by rfl) (by rfl) (by rfl) (by exact wn2 rfl rfl rfl rfl) ?_
        refine PR_offF (by rfl) (by rfl) (by rfl) (by exact wn2 rfl rfl rfl rfl) ?_
        refine PR_free (by rfl) (by rfl) (by rfl) (by exact wn0 rfl) (fun wS => (x_pick_f (v := .bool false) (by rfl) (by rfl))) ?_
        refine PR_nil ?_
        exact ⟨⟨congrArg Value.bool (Option.some.inj hm), rfl, rfl, rfl, rfl, trivial⟩, H⟩
       ·have hm := cond_t hbS hmS
        refine PR_free (by rfl) (by rfl) (by rfl) (by exact wn1 rfl rfl rfl rfl) (fun wS => (x_move (v := .slice A19 v17.1.length cp20) (by rfl))) ?_
        obtain ⟨el51, h52, h53, he54, hm⟩ := idx_some hm
        obtain ⟨g56, o57, hA55⟩ := (H.rd (i := 2) (by rfl)).addr he54
        refine PR_free (by rfl) (by rfl) (by rfl) (by exact wn1 rfl rfl rfl rfl) (fun wS => (x_indexAddr sl87 sz81 (by rfl) (by rfl) hA55 h52 h53)) ?_
        refine PR_take (by rfl) (by rfl) (by rfl) (by exact wn1 rfl rfl rfl rfl) (fun wS (H : Sep ok w wS [.blk b10 79 [.slice A4 v2.1.Arena.Slots.length cp5, .slice A7 v2.1.Kids.length cp8], .blk b12 82 [.int .i64 v2.2.1.a0.Slot, .int .i64 v2.2.1.a0.Gen, .int .i64 v2.2.1.a1.Slot, .int .i64 v2.2.1.a1.Gen, .int .i64 v2.2.1.a2.Slot, .int .i64 v2.2.1.a2.Gen]] [RE.rd k_Slot A4 cp5 v2.1.Arena.Slots, RE.rd (Kd.slice k_Handle) A7 cp8 v2.1.Kids, RE.rd k_Handle A19 cp20 v17.1, RE.rd k_Handle A25 cp26 v23.1]) => (x_loadA (j := 0) (vs := [.int .i64 el51.Slot, .int .i64 el51.Gen]) ag81 (by rfl) (Rd.flatAt (n := 2) (H.rd (i := 2) (by rfl)) hA55 he54) (by rfl) (by rfl))) ?_
        refine PR_free (by rfl) (by rfl) (by rfl) (by exact wn1 rfl rfl rfl rfl) (fun wS => (x_indexArr ar82 sz81 (by rfl) (by rfl) (by decide) (by decide))) ?_
        refine PR_take (by rfl) (by rfl) (by rfl) (by exact wn1 rfl rfl rfl rfl) (fun wS (H : Sep ok w wS [.blk b10 79 [.slice A4 v2.1.Arena.Slots.length cp5, .slice A7 v2.1.Kids.length cp8], .blk b12 82 [.int .i64 v2.2.1.a0.Slot, .int .i64 v2.2.1.a0.Gen, .int .i64 v2.2.1.a1.Slot, .int .i64 v2.2.1.a1.Gen, .int .i64 v2.2.1.a2.Slot, .int .i64 v2.2.1.a2.Gen]] [RE.rd k_Slot A4 cp5 v2.1.Arena.Slots, RE.rd (Kd.slice k_Handle) A7 cp8 v2.1.Kids, RE.rd k_Handle A19 cp20 v17.1, RE.rd k_Handle A25 cp26 v23.1]) => (x_loadA (j := 2) (vs := [.int .i64 v2.2.1.a1.Slot, .int .i64 v2.2.1.a1.Gen]) ag81 (by rfl) (H.cells (i := 1) (by rfl)) (by rfl) (by rfl))) ?_
        refine PR_free (by rfl) (by rfl) (by rfl) (by exact wn1 rfl rfl rfl rfl) (fun wS => (x_eqls ep81 eg81 (by rfl) (by rfl) (b := ((el51.Slot == v2.2.1.a1.Slot) && (el51.Gen == v2.2.1.a1.Gen))) (by rfl))) ?_
        refine PR_free (by rfl) (by rfl) (by rfl) (by exact wn0 rfl) (fun wS => (x_pick_t (v := .bool ((el51.Slot == v2.2.1.a1.Slot) && (el51.Gen == v2.2.1.a1.Gen))) (by rfl) (by rfl))) ?_
        refine PR_nil ?_
        exact ⟨⟨congrArg Value.bool (Option.some.inj hm), rfl, rfl, rfl, rfl, trivial⟩, H⟩
      ·rintro r' w' ⟨hA, H⟩
       obtain ⟨r58, rfl⟩ := regen _ hA; clear hA
       obtain ⟨w59, rfl⟩ : ∃ W : World, W = w' := ⟨_, rfl⟩
       show PR _ _ _ _ _ _ _ _
       refine PR_free (by rfl) (by rfl) (by rfl) (by exact wn0 rfl) (fun wS => (x_move (v := .bool b50) (by rfl))) ?_
       obtain ⟨b60, hmS, hm⟩ := bind_some hm
       refine PR_cut 4 (fun r' w' => Agr [(83, .bool b60), (2, .pointer (some ⟨b12, 0, none⟩)), (6, .slice A25 v23.1.length cp26), (8, .bool v29.1), (10, .bool v32.1)] r' ∧ Sep ok w w' [.blk b10 79 [.slice A4 v2.1.Arena.Slots.length cp5, .slice A7 v2.1.Kids.length cp8], .blk b12 82 [.int .i64 v2.2.1.a0.Slot, .int .i64 v2.2.1.a0.Gen, .int .i64 v2.2.1.a1.Slot, .int .i64 v2.2.1.a1.Gen, .int .i64 v2.2.1.a2.Slot, .int .i64 v2.2.1.a2.Gen]] [RE.rd k_Slot A4 cp5 v2.1.Arena.Slots, RE.rd (Kd.slice k_Handle) A7 cp8 v2.1.Kids, RE.rd k_Handle A19 cp20 v17.1, RE.rd k_Handle A25 cp26 v23.1]) ?_ ?_
       ·cases hbS : b50
        ·have hm := cond_f hbS hmS
         refine PR_offF (by rfl) (by rfl) (by rfl) (by exact wn2 rfl rfl rfl rfl) ?_
         refine PR_offF (by rfl) (by rfl) (by rfl) (by exact wn2 rfl rfl rfl rfl) ?_
         refine PR_offF (by rfl) (by rfl) (by rfl) (by exact wn2 rfl rfl rfl rfl) ?_
         refine PR_free (by rfl) (by rfl) (by rfl) (by exact wn0 rfl) (fun wS => (x_pick_f (v := .bool false) (by rfl) (by rfl))) ?_
         refine PR_nil ?_
         exact ⟨⟨congrArg Value.bool (Option.some.inj hm), rfl, rfl, rfl, rfl, trivial⟩, H⟩
        ·have hm := cond_t hbS hmS
         refine PR_free (by rfl) (by rfl) (by rfl) (by exact wn1 rfl rfl rfl rfl) (fun wS => (x_move (v := .slice A25 v23.1.length cp26) (by rfl))) ?_
         refine PR_free (by rfl) (by rfl) (by rfl) (by exact wn1 rfl rfl rfl rfl) (fun wS => (x_len sl87 (by rfl))) ?_
         refine PR_free (by rfl) (by rfl) (by rfl) (by exact wn1 rfl rfl rfl rfl) (fun wS => (x_eql (by rfl) (by rfl))) ?_
         refine PR_free (by rfl) (by rfl) (by rfl) (by exact wn0 rfl) (fun wS => (x_pick_t (v := .bool ((v23.1.length : Int) == 2)) (by rfl) (by rfl))) ?_
         refine PR_nil ?_
         exact ⟨⟨congrArg Value.bool (Option.some.inj hm), rfl, rfl, rfl, rfl, trivial⟩, H⟩
       ·rintro r' w' ⟨hA, H⟩
        obtain ⟨r61, rfl⟩ := regen _ hA; clear hA
        obtain ⟨w62, rfl⟩ : ∃ W : World, W = w' := ⟨_, rfl⟩
        show PR _ _ _ _ _ _ _ _
        refine PR_free (by rfl) (by rfl) (by rfl) (by exact wn0 rfl) (fun wS => (x_move (v := .bool b60) (by rfl))) ?_
        obtain ⟨b63, hmS, hm⟩ := bind_some hm
        refine PR_cut 7 (fun r' w' => Agr [(91, .bool b63), (8, .bool v29.1), (10, .bool v32.1)] r' ∧ Sep ok w w' [.blk b10 79 [.slice A4 v2.1.Arena.Slots.length cp5, .slice A7 v2.1.Kids.length cp8], .blk b12 82 [.int .i64 v2.2.1.a0.Slot, .int .i64 v2.2.1.a0.Gen, .int .i64 v2.2.1.a1.Slot, .int .i64 v2.2.1.a1.Gen, .int .i64 v2.2.1.a2.Slot, .int .i64 v2.2.1.a2.Gen]] [RE.rd k_Slot A4 cp5 v2.1.Arena.Slots, RE.rd (Kd.slice k_Handle) A7 cp8 v2.1.Kids, RE.rd k_Handle A19 cp20 v17.1, RE.rd k_Handle A25 cp26 v23.1]) ?_ ?_
        ·cases hbS : b60
         ·have hm := cond_f hbS hmS
          refine PR_offF (by rfl) (by rfl) (by rfl) (by exact wn2 rfl rfl rfl rfl) ?_
          refine PR_offF (by rfl) (by rfl) (by rfl) (by exact wn2 rfl rfl rfl rfl) ?_
          refine PR_off (by rfl) (by rfl) (by rfl) (by exact wn2 rfl rfl rfl rfl) ?_
          refine PR_offF (by rfl) (by rfl) (by rfl) (by exact wn2 rfl rfl rfl rfl) ?_
          refine PR_off (by rfl) (by rfl) (by rfl) (by exact wn2 rfl rfl rfl rfl) ?_
          refine PR_offF (by rfl) (by rfl) (by rfl) (by exact wn2 rfl rfl rfl rfl) ?_
          refine PR_free (by rfl) (by rfl) (by rfl) (by exact wn0 rfl) (fun wS => (x_pick_f (v := .bool false) (by rfl) (by rfl))) ?_
          refine PR_nil ?_
          exact ⟨⟨congrArg Value.bool (Option.some.inj hm), rfl, rfl, trivial⟩, H⟩
         ·have hm := cond_t hbS hmS
          refine PR_free (by rfl) (by rfl) (by rfl) (by exact wn1 rfl rfl rfl rfl) (fun wS => (x_move (v := .slice A25 v23.1.length cp26) (by rfl))) ?_
          obtain ⟨el64, h65, h66, he67, hm⟩ := idx_some hm
          obtain ⟨g69, o70, hA68⟩ := (H.rd (i := 3) (by rfl)).addr he67
          refine PR_free (by rfl) (by rfl) (by rfl) (by exact wn1 rfl rfl rfl rfl) (fun wS => (x_indexAddr sl87 sz81 (by rfl) (by rfl) hA68 h65 h66)) ?_
          refine PR_take (by rfl) (by rfl) (by rfl) (by exact wn1 rfl rfl rfl rfl) (fun wS (H : Sep ok w wS [.blk b10 79 [.slice A4 v2.1.Arena.Slots.length cp5, .slice A7 v2.1.Kids.length cp8], .blk b12 82 [.int .i64 v2.2.1.a0.Slot, .int .i64 v2.2.1.a0.Gen, .int .i64 v2.2.1.a1.Slot, .int .i64 v2.2.1.a1.Gen, .int .i64 v2.2.1.a2.Slot, .int .i64 v2.2.1.a2.Gen]] [RE.rd k_Slot A4 cp5 v2.1.Arena.Slots, RE.rd (Kd.slice k_Handle) A7 cp8 v2.1.Kids, RE.rd k_Handle A19 cp20 v17.1, RE.rd k_Handle A25 cp26 v23.1]) => (x_loadA (j := 0) (vs := [.int .i64 el64.Slot, .int .i64 el64.Gen]) ag81 (by rfl) (Rd.flatAt (n := 2) (H.rd (i := 3) (by rfl)) hA68 he67) (by rfl) (by rfl))) ?_
          refine PR_free (by rfl) (by rfl) (by rfl) (by exact wn1 rfl rfl rfl rfl) (fun wS => (x_indexArr ar82 sz81 (by rfl) (by rfl) (by decide) (by decide))) ?_
          refine PR_take (by rfl) (by rfl) (by rfl) (by exact wn1 rfl rfl rfl rfl) (fun wS (H : Sep ok w wS [.blk b10 79 [.slice A4 v2.1.Arena.Slots.length cp5, .slice A7 v2.1.Kids.length cp8], .blk b12 82 [.int .i64 v2.2.1.a0.Slot, .int .i64 v2.2.1.a0.Gen, .int .i64 v2.2.1.a1.Slot, .int .i64 v2.2.1.a1.Gen, .int .i64 v2.2.1.a2.Slot, .int .i64 v2.2.1.a2.Gen]] [RE.rd k_Slot A4 cp5 v2.1.Arena.Slots, RE.rd (Kd.slice k_Handle) A7 cp8 v2.1.Kids, RE.rd k_Handle A19 cp20 v17.1, RE.rd k_Handle A25 cp26 v23.1]) => (x_loadA (j := 0) (vs := [.int .i64 v2.2.1.a0.Slot, .int .i64 v2.2.1.a0.Gen]) ag81 (by rfl) (H.cells (i := 1) (by rfl)) (by rfl) (by rfl))) ?_
          refine PR_free (by rfl) (by rfl) (by rfl) (by exact wn1 rfl rfl rfl rfl) (fun wS => (x_eqls ep81 eg81 (by rfl) (by rfl) (b := ((el64.Slot == v2.2.1.a0.Slot) && (el64.Gen == v2.2.1.a0.Gen))) (by rfl))) ?_
          refine PR_free (by rfl) (by rfl) (by rfl) (by exact wn0 rfl) (fun wS => (x_pick_t (v := .bool ((el64.Slot == v2.2.1.a0.Slot) && (el64.Gen == v2.2.1.a0.Gen))) (by rfl) (by rfl))) ?_
          refine PR_nil ?_
          exact ⟨⟨congrArg Value.bool (Option.some.inj hm), rfl, rfl, trivial⟩, H⟩
        ·rintro r' w' ⟨hA, H⟩
         obtain ⟨r71, rfl⟩ := regen _ hA; clear hA
         obtain ⟨w72, rfl⟩ : ∃ W : World, W = w' := ⟨_, rfl⟩
         show PR _ _ _ _ _ _ _ _
         refine PR_free (by rfl) (by rfl) (by rfl) (by exact wn0 rfl) (fun wS => (x_move (v := .bool b63) (by rfl))) ?_
         obtain ⟨b73, hmS, hm⟩ := bind_some hm
         refine PR_cut 2 (fun r' w' => Agr [(94, .bool b73), (10, .bool v32.1)] r' ∧ Sep ok w w' [.blk b10 79 [.slice A4 v2.1.Arena.Slots.length cp5, .slice A7 v2.1.Kids.length cp8], .blk b12 82 [.int .i64 v2.2.1.a0.Slot, .int .i64 v2.2.1.a0.Gen, .int .i64 v2.2.1.a1.Slot, .int .i64 v2.2.1.a1.Gen, .int .i64 v2.2.1.a2.Slot, .int .i64 v2.2.1.a2.Gen]] [RE.rd k_Slot A4 cp5 v2.1.Arena.Slots, RE.rd (Kd.slice k_Handle) A7 cp8 v2.1.Kids, RE.rd k_Handle A19 cp20 v17.1, RE.rd k_Handle A25 cp26 v23.1]) ?_ ?_
         ·cases hbS : b63
          ·have hm := cond_f hbS hmS
           refine PR_offF (by rfl) (by rfl) (by rfl) (by exact wn2 rfl rfl rfl rfl) ?_
           refine PR_free (by rfl) (by rfl) (by rfl) (by exact wn0 rfl) (fun wS => (x_pick_f (v := .bool false) (by rfl) (by rfl))) ?_
           refine PR_nil ?_
           exact ⟨⟨congrArg Value.bool (Option.some.inj hm), rfl, trivial⟩, H⟩
          ·have hm := cond_t hbS hmS
           refine PR_free (by rfl) (by rfl) (by rfl) (by exact wn1 rfl rfl rfl rfl) (fun wS => (x_move (v := .bool v29.1) (by rfl))) ?_
           refine PR_free (by rfl) (by rfl) (by rfl) (by exact wn0 rfl) (fun wS => (x_pick_t (v := .bool v29.1) (by rfl) (by rfl))) ?_
           refine PR_nil ?_
           exact ⟨⟨congrArg Value.bool (Option.some.inj hm), rfl, trivial⟩, H⟩
         ·rintro r' w' ⟨hA, H⟩
          obtain ⟨r74, rfl⟩ := regen _ hA; clear hA
          obtain ⟨w75, rfl⟩ : ∃ W : World, W = w' := ⟨_, rfl⟩
          show PR _ _ _ _ _ _ _ _
          refine PR_free (by rfl) (by rfl) (by rfl) (by exact wn0 rfl) (fun wS => (x_move (v := .bool b73) (by rfl))) ?_
          obtain ⟨b76, hmS, hm⟩ := bind_some hm
          refine PR_cut 3 (fun r' w' => Agr [(98, .bool b76)] r' ∧ Sep ok w w' [.blk b10 79 [.slice A4 v2.1.Arena.Slots.length cp5, .slice A7 v2.1.Kids.length cp8], .blk b12 82 [.int .i64 v2.2.1.a0.Slot, .int .i64 v2.2.1.a0.Gen, .int .i64 v2.2.1.a1.Slot, .int .i64 v2.2.1.a1.Gen, .int .i64 v2.2.1.a2.Slot, .int .i64 v2.2.1.a2.Gen]] [RE.rd k_Slot A4 cp5 v2.1.Arena.Slots, RE.rd (Kd.slice k_Handle) A7 cp8 v2.1.Kids, RE.rd k_Handle A19 cp20 v17.1, RE.rd k_Handle A25 cp26 v23.1]) ?_ ?_
          ·cases hbS : b73
           ·have hm := cond_f hbS hmS
            refine PR_offF (by rfl) (by rfl) (by rfl) (by exact wn2 rfl rfl rfl rfl) ?_
            refine PR_offF (by rfl) (by rfl) (by rfl) (by exact wn2 rfl rfl rfl rfl) ?_
            refine PR_free (by rfl) (by rfl) (by rfl) (by exact wn0 rfl) (fun wS => (x_pick_f (v := .bool false) (by rfl) (by rfl))) ?_
            refine PR_nil ?_
            exact ⟨⟨congrArg Value.bool (Option.some.inj hm), trivial⟩, H⟩
           ·have hm := cond_t hbS hmS
            refine PR_free (by rfl) (by rfl) (by rfl) (by exact wn1 rfl rfl rfl rfl) (fun wS => (x_move (v := .bool v32.1) (by rfl))) ?_
            refine PR_free (by rfl) (by rfl) (by rfl) (by exact wn1 rfl rfl rfl rfl) (fun wS => (x_not (by rfl))) ?_
            refine PR_free (by rfl) (by rfl) (by rfl) (by exact wn0 rfl) (fun wS => (x_pick_t (v := .bool (!v32.1)) (by rfl) (by rfl))) ?_
            refine PR_nil ?_
            exact ⟨⟨congrArg Value.bool (Option.some.inj hm), trivial⟩, H⟩
          ·rintro r' w' ⟨hA, H⟩
           obtain ⟨r77, rfl⟩ := regen _ hA; clear hA
           obtain ⟨w78, rfl⟩ : ∃ W : World, W = w' := ⟨_, rfl⟩
           show PR _ _ _ _ _ _ _ _
           refine PR_free (by rfl) (by rfl) (by rfl) (by exact wn0 rfl) (fun wS => (x_assign (v := .bool b76) (by rfl))) ?_
           refine PR_nil ?_
           refine W_ret ?_
           obtain rfl := Option.some.inj hm
           exact ⟨[.bool b76], (.tmp (by rfl) rfl), rfl, H.none_⟩
end Go.Proofs.YtobkigllalbkiaaV.M

/- A plain Lean function that answers as the Go function does (none: not told), and the proof that a call answers so. Written by program. -/
set_option linter.unusedVariables false
namespace Go.Proofs.YtobkigllalbkiaaV.M
open Go.RowKit Go.Proofs.YtobkigllalbkiaaV
def m44_l1b (K : Nat) (a0 : S_Graph) (rec1 : Int → Int → Option (Bool)) (y3_1 : Int) (y4_1 : Int) : Option (Bool) :=
 (bif (decide (y4_1 < (a0.Kids.length : Int))) then (idx a0.Kids y4_1 fun el16 => (ck (y3_1 + (el16.length : Int)) fun x33 => (bif (decide (400 < x33)) then some true else (ck (y4_1 + 1) fun x34 => (rec1 x33 x34))))) else some false)
def m44_l1 (K : Nat) (a0 : S_Graph) : Nat → Int → Int → Option (Bool)
 | 0 => fun _ _ => none
 | k + 1 => m44_l1b K a0 (m44_l1 K a0 k)
/-- diorama/dioramaref06.Great -/
def m44 (K : Nat) (a0 : S_Graph) : Option (Bool) :=
 ((bif (decide (200 < (a0.Arena.Slots.length : Int))) then some true else some (decide (200 < (a0.Kids.length : Int)))).bind fun b11 => (bif b11 then some true else m44_l1 K a0 K 0 0))
set_option maxRecDepth 100000 in
set_option maxHeartbeats 4000000 in
theorem c44 (ok : Okp) (K : Nat) (w : World) (a0 : S_Graph) (A1 : Option Addr) (cp2 : Nat) (A5 : Option Addr) (cp6 : Nat) (hR3 : Rd k_Slot w ok A1 cp2 a0.Arena.Slots) (hR7 : Rd (Kd.slice k_Handle) w ok A5 cp6 a0.Kids) (res : Bool) (hm : m44 K a0 = some res) :
  Calls Try.prog 44 #[.agg #[.slice A1 a0.Arena.Slots.length cp2, .slice A5 a0.Kids.length cp6]] w (fun e w' => e = .returned (tup [.bool res]) ∧ Sep ok w w' [] []) := by
 refine calls_W (args := [.agg #[.slice A1 a0.Arena.Slots.length cp2, .slice A5 a0.Kids.length cp6]]) Try.func44 rfl Try.ntmps44 Try.results44 rfl fun r hr => ?_
 obtain ⟨r1, rfl⟩ := regen (r := r) [(0, .agg #[.slice A1 a0.Arena.Slots.length cp2, .slice A5 a0.Kids.length cp6])] ⟨hr 0 _ rfl, trivial⟩
 have H : Sep ok w w [] [RE.rd k_Slot A1 cp2 a0.Arena.Slots, RE.rd (Kd.slice k_Handle) A5 cp6 a0.Kids] := Sep.arg (Sep.arg (Sep.start ok w) (re := RE.rd k_Slot A1 cp2 a0.Arena.Slots) rfl rfl hR3) (re := RE.rd (Kd.slice k_Handle) A5 cp6 a0.Kids) rfl rfl hR7
 unfold m44 at hm
 refine W_seq ?_
 refine W_region ?_
 refine RL_cons (O_box (by exact wn0 rfl) (by rfl) (by rfl) (by rfl) H (fun w10 b9 (H : Sep ok w w10 [.blk b9 79 [.slice A1 a0.Arena.Slots.length cp2, .slice A5 a0.Kids.length cp6]] [RE.rd k_Slot A1 cp2 a0.Arena.Slots, RE.rd (Kd.slice k_Handle) A5 cp6 a0.Kids]) => ?_))
 refine RL_pure (by exact wn0 rfl) (by rfl) (by rfl) (x_assign (v := .bool false) (by rfl)) ?_
 refine RL_nil ?_
 refine W_seq ?_
 refine W_seq ?_
 refine W_region ?_
 refine RL_pure (by exact wn0 rfl) (by rfl) (by rfl) (x_fieldAddr fo79_0 (by rfl)) ?_
 refine RL_pure (by exact wn0 rfl) (by rfl) (by rfl) (x_fieldAddr fo76_0 (by rfl)) ?_
 refine RL_pure (by exact wn0 rfl) (by rfl) (by rfl) (x_load (j := 0) (v := .slice A1 a0.Arena.Slots.length cp2) sc74 (by rfl) (H.cells (i := 0) (by rfl)) (by rfl)) ?_
 refine RL_pure (by exact wn0 rfl) (by rfl) (by rfl) (x_len sl74 (by rfl)) ?_
 refine RL_pure (by exact wn0 rfl) (by rfl) (by rfl) (x_gtr (by rfl) (by rfl)) ?_
 refine RL_pure (by exact wn0 rfl) (by rfl) (by rfl) (x_move (v := .bool (decide (200 < (a0.Arena.Slots.length : Int)))) (by rfl)) ?_
 obtain ⟨b11, hmS, hm⟩ := bind_some hm
 refine RL_cut 5 (fun r' w' => Agr [(15, .bool b11), (1, .pointer (some ⟨b9, 0, none⟩))] r' ∧ Sep ok w w' [.blk b9 79 [.slice A1 a0.Arena.Slots.length cp2, .slice A5 a0.Kids.length cp6]] [RE.rd k_Slot A1 cp2 a0.Arena.Slots, RE.rd (Kd.slice k_Handle) A5 cp6 a0.Kids]) ?_ ?_
 ·cases hbS : (decide (200 < (a0.Arena.Slots.length : Int)))
  ·have hm := cond_f hbS hmS
   refine RL_pure (by exact wn1 rfl rfl rfl rfl) (by rfl) (by rfl) (x_fieldAddr fo79_1 (by rfl)) ?_
   refine RL_pure (by exact wn1 rfl rfl rfl rfl) (by rfl) (by rfl) (x_load (j := 1) (v := .slice A5 a0.Kids.length cp6) sc77 (by rfl) (H.cells (i := 0) (by rfl)) (by rfl)) ?_
   refine RL_pure (by exact wn1 rfl rfl rfl rfl) (by rfl) (by rfl) (x_len sl77 (by rfl)) ?_
   refine RL_pure (by exact wn1 rfl rfl rfl rfl) (by rfl) (by rfl) (x_gtr (by rfl) (by rfl)) ?_
   refine RL_pure (by exact wn0 rfl) (by rfl) (by rfl) (x_pick_f (v := .bool (decide (200 < (a0.Kids.length : Int)))) (by rfl) (by rfl)) ?_
   refine RL_nil ?_
   exact ⟨⟨congrArg Value.bool (Option.some.inj hm), rfl, trivial⟩, H⟩
  ·have hm := cond_t hbS hmS
   refine RL_cons (OpR_off (by exact wn2 rfl rfl rfl rfl) (by rfl) (by rfl) ?_)
   refine RL_cons (OpR_off (by exact wn2 rfl rfl rfl rfl) (by rfl) (by rfl) ?_)
   refine RL_cons (OpR_off (by exact wn2 rfl rfl rfl rfl) (by rfl) (by rfl) ?_)
   refine RL_cons (OpR_off (by exact wn2 rfl rfl rfl rfl) (by rfl) (by rfl) ?_)
   refine RL_pure (by exact wn0 rfl) (by rfl) (by rfl) (x_pick_t (v := .bool true) (by rfl) (by rfl)) ?_
   refine RL_nil ?_
   exact ⟨⟨congrArg Value.bool (Option.some.inj hm), rfl, trivial⟩, H⟩
 ·rintro r' w' ⟨hA, H⟩
  obtain ⟨r12, rfl⟩ := regen _ hA; clear hA
  obtain ⟨w13, rfl⟩ : ∃ W : World, W = w' := ⟨_, rfl⟩
  show RL _ _ _ _ _ _ _
  refine RL_nil ?_
  refine W_cond (by rfl) (fun hb => ?_) (fun hb => ?_)
  ·have hm := cond_t hb hm
   refine W_seq ?_
   refine W_region ?_
   refine RL_pure (by exact wn0 rfl) (by rfl) (by rfl) (x_assign (v := .bool true) (by rfl)) ?_
   refine RL_nil ?_
   refine W_ret ?_
   obtain rfl := Option.some.inj hm
   exact ⟨[.bool true], (.tmp (by rfl) rfl), rfl, H.none_⟩
  ·have hm := cond_f hb hm
   refine W_skip ?_
   refine W_seq ?_
   refine W_region ?_
   refine RL_pure (by exact wn0 rfl) (by rfl) (by rfl) (x_assign (v := .int .i64 0) (by rfl)) ?_
   refine RL_nil ?_
   refine W_seq ?_
   refine W_seq ?_
   refine W_region ?_
   refine RL_pure (by exact wn0 rfl) (by rfl) (by rfl) (x_assign (v := .int .i64 0) (by rfl)) ?_
   refine RL_nil ?_
   refine W_block ?_
   refine W_loop (fun k1 r' w' => ∃ (y3_1 : Int), ∃ (y4_1 : Int), m44_l1 K a0 k1 y3_1 y4_1 = some res ∧ Agr [(1, .pointer (some ⟨b9, 0, none⟩)), (3, .int .i64 y3_1), (4, .int .i64 y4_1)] r' ∧ Sep ok w w' [.blk b9 79 [.slice A1 a0.Arena.Slots.length cp2, .slice A5 a0.Kids.length cp6]] [RE.rd k_Slot A1 cp2 a0.Arena.Slots, RE.rd (Kd.slice k_Handle) A5 cp6 a0.Kids]) K ?_ ?_
   ·exact ⟨0, 0, hm, ⟨rfl, rfl, rfl, trivial⟩, H⟩
   ·rintro k1 r' w' ⟨y3_1, y4_1, hm, hA, H⟩
    obtain ⟨r14, rfl⟩ := regen _ hA; clear hA
    obtain ⟨w15, rfl⟩ : ∃ W : World, W = w' := ⟨_, rfl⟩
    cases k1 with
    | zero => exact (none_some hm).elim
    | succ k1 =>
     have hm : m44_l1b K a0 (m44_l1 K a0 k1) y3_1 y4_1 = some res := hm
     unfold m44_l1b at hm
     obtain ⟨rec1, hrec1⟩ : ∃ f, m44_l1 K a0 k1 = f := ⟨_, rfl⟩
     rw [hrec1] at hm
     refine W_seq ?_
     refine W_seq ?_
     refine W_region ?_
     refine RL_pure (by exact wn0 rfl) (by rfl) (by rfl) (x_move (v := .int .i64 y4_1) (by rfl)) ?_
     refine RL_pure (by exact wn0 rfl) (by rfl) (by rfl) (x_fieldAddr fo79_1 (by rfl)) ?_
     refine RL_pure (by exact wn0 rfl) (by rfl) (by rfl) (x_load (j := 1) (v := .slice A5 a0.Kids.length cp6) sc77 (by rfl) (H.cells (i := 0) (by rfl)) (by rfl)) ?_
     refine RL_pure (by exact wn0 rfl) (by rfl) (by rfl) (x_len sl77 (by rfl)) ?_
     refine RL_pure (by exact wn0 rfl) (by rfl) (by rfl) (x_lss (by rfl) (by rfl)) ?_
     refine RL_nil ?_
     refine W_cond (by rfl) (fun hb => ?_) (fun hb => ?_)
     ·have hm := cond_t hb hm
      refine W_skip ?_
      refine W_seq ?_
      refine W_block ?_
      refine W_seq ?_
      refine W_region ?_
      refine RL_pure (by exact wn0 rfl) (by rfl) (by rfl) (x_move (v := .int .i64 y3_1) (by rfl)) ?_
      refine RL_pure (by exact wn0 rfl) (by rfl) (by rfl) (x_fieldAddr fo79_1 (by rfl)) ?_
      refine RL_pure (by exact wn0 rfl) (by rfl) (by rfl) (x_load (j := 1) (v := .slice A5 a0.Kids.length cp6) sc77 (by rfl) (H.cells (i := 0) (by rfl)) (by rfl)) ?_
      refine RL_pure (by exact wn0 rfl) (by rfl) (by rfl) (x_move (v := .int .i64 y4_1) (by rfl)) ?_
      obtain ⟨el16, h17, h18, he19, hm⟩ := idx_some hm
      obtain ⟨g21, o22, hA20⟩ := (H.rd (i := 1) (by rfl)).addr he19
      obtain ⟨cs23, hk24, hat25, hg_cs23⟩ := (H.rd (i := 1) (by rfl)).openAt hA20 he19
      obtain ⟨A28, cp29, rfl, hR31⟩ := hk24
      have H : Sep ok w w15 [.blk b9 79 [.slice A1 a0.Arena.Slots.length cp2, .slice A5 a0.Kids.length cp6]] [RE.rd k_Slot A1 cp2 a0.Arena.Slots, RE.rd (Kd.slice k_Handle) A5 cp6 a0.Kids, RE.cells g21 (o22 + (y4_1).toNat * 1) [.slice A28 el16.length cp29]] := Sep.also H (re := RE.cells g21 (o22 + (y4_1).toNat * 1) [.slice A28 el16.length cp29]) ⟨hg_cs23, hat25⟩
      have H : Sep ok w w15 [.blk b9 79 [.slice A1 a0.Arena.Slots.length cp2, .slice A5 a0.Kids.length cp6]] [RE.rd k_Slot A1 cp2 a0.Arena.Slots, RE.rd (Kd.slice k_Handle) A5 cp6 a0.Kids, RE.cells g21 (o22 + (y4_1).toNat * 1) [.slice A28 el16.length cp29], RE.rd k_Handle A28 cp29 el16] := Sep.also H (re := RE.rd k_Handle A28 cp29 el16) hR31
      refine RL_pure (by exact wn0 rfl) (by rfl) (by rfl) (x_indexAddr sl77 sz87 (by rfl) (by rfl) hA20 h17 h18) ?_
      refine RL_pure (by exact wn0 rfl) (by rfl) (by rfl) (x_load (j := 0) (v := .slice A28 el16.length cp29) sc87 (by rfl) (H.cellsR (i := 2) (by rfl)) (by rfl)) ?_
      refine RL_pure (by exact wn0 rfl) (by rfl) (by rfl) (x_len sl87 (by rfl)) ?_
      obtain ⟨x33, ex33, qx33, ux33, hm⟩ := ck_some hm
      refine RL_pure (by exact wn0 rfl) (by rfl) (by rfl) (x_add (by rfl) (by rfl) ux33) ?_
      refine RL_pure (by exact wn0 rfl) (by rfl) (by rfl) (x_assign (v := .int .i64 x33) (by rfl)) ?_
      refine RL_nil ?_
      refine W_seq ?_
      refine W_region ?_
      refine RL_pure (by exact wn0 rfl) (by rfl) (by rfl) (x_move (v := .int .i64 x33) (by rfl)) ?_
      refine RL_pure (by exact wn0 rfl) (by rfl) (by rfl) (x_gtr (by rfl) (by rfl)) ?_
      refine RL_nil ?_
      refine W_cond (by rfl) (fun hb => ?_) (fun hb => ?_)
      ·have hm := cond_t hb hm
       refine W_seq ?_
       refine W_region ?_
       refine RL_pure (by exact wn0 rfl) (by rfl) (by rfl) (x_assign (v := .bool true) (by rfl)) ?_
       refine RL_nil ?_
       refine W_ret ?_
       obtain rfl := Option.some.inj hm
       exact ⟨[.bool true], (.tmp (by rfl) rfl), rfl, H.none_⟩
      ·have hm := cond_f hb hm
       refine W_skip ?_
       refine W_region ?_
       refine RL_pure (by exact wn0 rfl) (by rfl) (by rfl) (x_move (v := .int .i64 y4_1) (by rfl)) ?_
       obtain ⟨x34, ex34, qx34, ux34, hm⟩ := ck_some hm
       refine RL_pure (by exact wn0 rfl) (by rfl) (by rfl) (x_add (by rfl) (by rfl) ux34) ?_
       refine RL_pure (by exact wn0 rfl) (by rfl) (by rfl) (x_assign (v := .int .i64 x34) (by rfl)) ?_
       refine RL_nil ?_
       subst hrec1
       exact ⟨k1, Nat.lt_succ_self k1, x33, x34, hm, ⟨rfl, rfl, rfl, trivial⟩, (H).pick [0, 1]⟩
     ·have hm := cond_f hb hm
      refine W_exit ?_
      refine W_seq ?_
      refine W_region ?_
      refine RL_pure (by exact wn0 rfl) (by rfl) (by rfl) (x_assign (v := .bool false) (by rfl)) ?_
      refine RL_nil ?_
      refine W_ret ?_
      obtain rfl := Option.some.inj hm
      exact ⟨[.bool false], (.tmp (by rfl) rfl), rfl, H.none_⟩
end Go.Proofs.YtobkigllalbkiaaV.M

/- A plain Lean function that answers as the Go function does (none: not told), and the proof that a call answers so. Written by program. -/
set_option linter.unusedVariables false
namespace Go.Proofs.YtobkigllalbkiaaV.M
open Go.RowKit Go.Proofs.YtobkigllalbkiaaV
def m47_l2b (K : Nat) (a0 : S_Graph) (y3_1 : Int) (rec1 : Int → Option (Bool)) (rec2 : Int → Option (Bool)) (y4_2 : Int) : Option (Bool) :=
 (idx a0.Kids y3_1 fun el15 => (bif (decide (y4_2 < (el15.length : Int))) then (idx a0.Kids y3_1 fun el32 => (idx el32 y4_2 fun el49 => (idx a0.Arena.Slots y3_1 fun el56 => ((m46 K a0 el49 (⟨y3_1, el56.Gen⟩ : S_Handle)).bind fun v65 => ((bif (v65.2 != 0) then some true else some v65.1).bind fun b67 => (bif b67 then some false else (ck (y4_2 + 1) fun x70 => (rec2 x70)))))))) else (ck (y3_1 + 1) fun x71 => (rec1 x71))))
def m47_l2 (K : Nat) (a0 : S_Graph) (y3_1 : Int) (rec1 : Int → Option (Bool)) : Nat → Int → Option (Bool)
 | 0 => fun _ => none
 | k + 1 => m47_l2b K a0 y3_1 rec1 (m47_l2 K a0 y3_1 rec1 k)
def m47_l1b (K : Nat) (a0 : S_Graph) (rec1 : Int → Option (Bool)) (y3_1 : Int) : Option (Bool) :=
 (bif (decide (y3_1 < (a0.Kids.length : Int))) then m47_l2 K a0 y3_1 rec1 K 0 else some true)
def m47_l1 (K : Nat) (a0 : S_Graph) : Nat → Int → Option (Bool)
 | 0 => fun _ => none
 | k + 1 => m47_l1b K a0 (m47_l1 K a0 k)
/-- diorama/dioramalaw06.none -/
def m47 (K : Nat) (a0 : S_Graph) : Option (Bool) :=
 m47_l1 K a0 K 0
set_option maxRecDepth 100000 in
set_option maxHeartbeats 4000000 in
theorem c47 (ok : Okp) (K : Nat) (w : World) (a0 : S_Graph) (A1 : Option Addr) (cp2 : Nat) (A5 : Option Addr) (cp6 : Nat) (hR3 : Rd k_Slot w ok A1 cp2 a0.Arena.Slots) (hR7 : Rd (Kd.slice k_Handle) w ok A5 cp6 a0.Kids) (res : Bool) (hm : m47 K a0 = some res) :
  Calls Try.prog 47 #[.agg #[.slice A1 a0.Arena.Slots.length cp2, .slice A5 a0.Kids.length cp6]] w (fun e w' => e = .returned (tup [.bool res]) ∧ Sep ok w w' [] []) := by
 refine calls_W (args := [.agg #[.slice A1 a0.Arena.Slots.length cp2, .slice A5 a0.Kids.length cp6]]) Try.func47 rfl Try.ntmps47 Try.results47 rfl fun r hr => ?_
 obtain ⟨r1, rfl⟩ := regen (r := r) [(0, .agg #[.slice A1 a0.Arena.Slots.length cp2, .slice A5 a0.Kids.length cp6])] ⟨hr 0 _ rfl, trivial⟩
 have H : Sep ok w w [] [RE.rd k_Slot A1 cp2 a0.Arena.Slots, RE.rd (Kd.slice k_Handle) A5 cp6 a0.Kids] := Sep.arg (Sep.arg (Sep.start ok w) (re := RE.rd k_Slot A1 cp2 a0.Arena.Slots) rfl rfl hR3) (re := RE.rd (Kd.slice k_Handle) A5 cp6 a0.Kids) rfl rfl hR7
 unfold m47 at hm
 refine W_seq ?_
 refine W_region ?_
 refine RL_cons (O_box (by exact wn0 rfl) (by rfl) (by rfl) (by rfl) H (fun w10 b9 (H : Sep ok w w10 [.blk b9 79 [.slice A1 a0.Arena.Slots.length cp2, .slice A5 a0.Kids.length cp6]] [RE.rd k_Slot A1 cp2 a0.Arena.Slots, RE.rd (Kd.slice k_Handle) A5 cp6 a0.Kids]) => ?_))
 refine RL_pure (by exact wn0 rfl) (by rfl) (by rfl) (x_assign (v := .bool false) (by rfl)) ?_
 refine RL_nil ?_
 refine W_seq ?_
 refine W_seq ?_
 refine W_region ?_
 refine RL_pure (by exact wn0 rfl) (by rfl) (by rfl) (x_assign (v := .int .i64 0) (by rfl)) ?_
 refine RL_nil ?_
 refine W_block ?_
 refine W_loop (fun k1 r' w' => ∃ (y3_1 : Int), m47_l1 K a0 k1 y3_1 = some res ∧ Agr [(1, .pointer (some ⟨b9, 0, none⟩)), (3, .int .i64 y3_1)] r' ∧ Sep ok w w' [.blk b9 79 [.slice A1 a0.Arena.Slots.length cp2, .slice A5 a0.Kids.length cp6]] [RE.rd k_Slot A1 cp2 a0.Arena.Slots, RE.rd (Kd.slice k_Handle) A5 cp6 a0.Kids]) K ?_ ?_
 ·exact ⟨0, hm, ⟨rfl, rfl, trivial⟩, H⟩
 ·rintro k1 r' w' ⟨y3_1, hm, hA, H⟩
  obtain ⟨r11, rfl⟩ := regen _ hA; clear hA
  obtain ⟨w12, rfl⟩ : ∃ W : World, W = w' := ⟨_, rfl⟩
  cases k1 with
  | zero => exact (none_some hm).elim
  | succ k1 =>
   have hm : m47_l1b K a0 (m47_l1 K a0 k1) y3_1 = some res := hm
   unfold m47_l1b at hm
   obtain ⟨rec1, hrec1⟩ : ∃ f, m47_l1 K a0 k1 = f := ⟨_, rfl⟩
   rw [hrec1] at hm
   refine W_seq ?_
   refine W_seq ?_
   refine W_region ?_
   refine RL_pure (by exact wn0 rfl) (by rfl) (by rfl) (x_move (v := .int .i64 y3_1) (by rfl)) ?_
   refine RL_pure (by exact wn0 rfl) (by rfl) (by rfl) (x_fieldAddr fo79_1 (by rfl)) ?_
   refine RL_pure (by exact wn0 rfl) (by rfl) (by rfl) (x_load (j := 1) (v := .slice A5 a0.Kids.length cp6) sc77 (by rfl) (H.cells (i := 0) (by rfl)) (by rfl)) ?_
   refine RL_pure (by exact wn0 rfl) (by rfl) (by rfl) (x_len sl77 (by rfl)) ?_
   refine RL_pure (by exact wn0 rfl) (by rfl) (by rfl) (x_lss (by rfl) (by rfl)) ?_
   refine RL_nil ?_
   refine W_cond (by rfl) (fun hb => ?_) (fun hb => ?_)
   ·have hm := cond_t hb hm
    refine W_skip ?_
    refine W_seq ?_
    refine W_block ?_
    refine W_seq ?_
    refine W_region ?_
    refine RL_pure (by exact wn0 rfl) (by rfl) (by rfl) (x_assign (v := .int .i64 0) (by rfl)) ?_
    refine RL_nil ?_
    refine W_block ?_
    refine W_loop (fun k2 r' w' => ∃ (y4_2 : Int), m47_l2 K a0 y3_1 rec1 k2 y4_2 = some res ∧ Agr [(1, .pointer (some ⟨b9, 0, none⟩)), (3, .int .i64 y3_1), (4, .int .i64 y4_2)] r' ∧ Sep ok w w' [.blk b9 79 [.slice A1 a0.Arena.Slots.length cp2, .slice A5 a0.Kids.length cp6]] [RE.rd k_Slot A1 cp2 a0.Arena.Slots, RE.rd (Kd.slice k_Handle) A5 cp6 a0.Kids]) K ?_ ?_
    ·exact ⟨0, hm, ⟨rfl, rfl, rfl, trivial⟩, H⟩
    ·rintro k2 r' w' ⟨y4_2, hm, hA, H⟩
     obtain ⟨r13, rfl⟩ := regen _ hA; clear hA
     obtain ⟨w14, rfl⟩ : ∃ W : World, W = w' := ⟨_, rfl⟩
     cases k2 with
     | zero => exact (none_some hm).elim
     | succ k2 =>
      have hm : m47_l2b K a0 y3_1 rec1 (m47_l2 K a0 y3_1 rec1 k2) y4_2 = some res := hm
      unfold m47_l2b at hm
      obtain ⟨rec2, hrec2⟩ : ∃ f, m47_l2 K a0 y3_1 rec1 k2 = f := ⟨_, rfl⟩
      rw [hrec2] at hm
      refine W_seq ?_
      refine W_seq ?_
      refine W_region ?_
      refine RL_pure (by exact wn0 rfl) (by rfl) (by rfl) (x_move (v := .int .i64 y4_2) (by rfl)) ?_
      refine RL_pure (by exact wn0 rfl) (by rfl) (by rfl) (x_fieldAddr fo79_1 (by rfl)) ?_
      refine RL_pure (by exact wn0 rfl) (by rfl) (by rfl) (x_load (j := 1) (v := .slice A5 a0.Kids.length cp6) sc77 (by rfl) (H.cells (i := 0) (by rfl)) (by rfl)) ?_
      refine RL_pure (by exact wn0 rfl) (by rfl) (by rfl) (x_move (v := .int .i64 y3_1) (by rfl)) ?_
      obtain ⟨el15, h16, h17, he18, hm⟩ := idx_some hm
      obtain ⟨g20, o21, hA19⟩ := (H.rd (i := 1) (by rfl)).addr he18
      obtain ⟨cs22, hk23, hat24, hg_cs22⟩ := (H.rd (i := 1) (by rfl)).openAt hA19 he18
      obtain ⟨A27, cp28, rfl, hR30⟩ := hk23
      have H : Sep ok w w14 [.blk b9 79 [.slice A1 a0.Arena.Slots.length cp2, .slice A5 a0.Kids.length cp6]] [RE.rd k_Slot A1 cp2 a0.Arena.Slots, RE.rd (Kd.slice k_Handle) A5 cp6 a0.Kids, RE.cells g20 (o21 + (y3_1).toNat * 1) [.slice A27 el15.length cp28]] := Sep.also H (re := RE.cells g20 (o21 + (y3_1).toNat * 1) [.slice A27 el15.length cp28]) ⟨hg_cs22, hat24⟩
      have H : Sep ok w w14 [.blk b9 79 [.slice A1 a0.Arena.Slots.length cp2, .slice A5 a0.Kids.length cp6]] [RE.rd k_Slot A1 cp2 a0.Arena.Slots, RE.rd (Kd.slice k_Handle) A5 cp6 a0.Kids, RE.cells g20 (o21 + (y3_1).toNat * 1) [.slice A27 el15.length cp28], RE.rd k_Handle A27 cp28 el15] := Sep.also H (re := RE.rd k_Handle A27 cp28 el15) hR30
      refine RL_pure (by exact wn0 rfl) (by rfl) (by rfl) (x_indexAddr sl77 sz87 (by rfl) (by rfl) hA19 h16 h17) ?_
      refine RL_pure (by exact wn0 rfl) (by rfl) (by rfl) (x_load (j := 0) (v := .slice A27 el15.length cp28) sc87 (by rfl) (H.cellsR (i := 2) (by rfl)) (by rfl)) ?_
      refine RL_pure (by exact wn0 rfl) (by rfl) (by rfl) (x_len sl87 (by rfl)) ?_
      refine RL_pure (by exact wn0 rfl) (by rfl) (by rfl) (x_lss (by rfl) (by rfl)) ?_
      refine RL_nil ?_
      refine W_cond (by rfl) (fun hb => ?_) (fun hb => ?_)
      ·have hm := cond_t hb hm
       refine W_skip ?_
       refine W_seq ?_
       refine W_block ?_
       refine W_seq ?_
       obtain ⟨el32, h33, h34, he35, hm⟩ := idx_some hm
       obtain ⟨g37, o38, hA36⟩ := (H.rd (i := 1) (by rfl)).addr he35
       obtain ⟨cs39, hk40, hat41, hg_cs39⟩ := (H.rd (i := 1) (by rfl)).openAt hA36 he35
       obtain ⟨A44, cp45, rfl, hR47⟩ := hk40
       have H : Sep ok w w14 [.blk b9 79 [.slice A1 a0.Arena.Slots.length cp2, .slice A5 a0.Kids.length cp6]] [RE.rd k_Slot A1 cp2 a0.Arena.Slots, RE.rd (Kd.slice k_Handle) A5 cp6 a0.Kids, RE.cells g20 (o21 + (y3_1).toNat * 1) [.slice A27 el15.length cp28], RE.rd k_Handle A27 cp28 el15, RE.cells g37 (o38 + (y3_1).toNat * 1) [.slice A44 el32.length cp45]] := Sep.also H (re := RE.cells g37 (o38 + (y3_1).toNat * 1) [.slice A44 el32.length cp45]) ⟨hg_cs39, hat41⟩
       have H : Sep ok w w14 [.blk b9 79 [.slice A1 a0.Arena.Slots.length cp2, .slice A5 a0.Kids.length cp6]] [RE.rd k_Slot A1 cp2 a0.Arena.Slots, RE.rd (Kd.slice k_Handle) A5 cp6 a0.Kids, RE.cells g20 (o21 + (y3_1).toNat * 1) [.slice A27 el15.length cp28], RE.rd k_Handle A27 cp28 el15, RE.cells g37 (o38 + (y3_1).toNat * 1) [.slice A44 el32.length cp45], RE.rd k_Handle A44 cp45 el32] := Sep.also H (re := RE.rd k_Handle A44 cp45 el32) hR47
       obtain ⟨el49, h50, h51, he52, hm⟩ := idx_some hm
       obtain ⟨g54, o55, hA53⟩ := (H.rd (i := 5) (by rfl)).addr he52
       obtain ⟨el56, h57, h58, he59, hm⟩ := idx_some hm
       obtain ⟨g61, o62, hA60⟩ := (H.rd (i := 0) (by rfl)).addr he59
       refine W_draw [.take 0, .free 1, .take 2, .free 3, .free 4, .take 5, .free 6, .free 7, .take 8, .free 9, .free 10, .free 11, .take 12, .free 13, .free 14, .free 15, .take 16, .free 17, .run 18, .free 19, .free 20, .free 21, .free 22, .free 23] (fun wS => Sep ok w wS [.blk b9 79 [.slice A1 a0.Arena.Slots.length cp2, .slice A5 a0.Kids.length cp6]] [RE.rd k_Slot A1 cp2 a0.Arena.Slots, RE.rd (Kd.slice k_Handle) A5 cp6 a0.Kids, RE.cells g20 (o21 + (y3_1).toNat * 1) [.slice A27 el15.length cp28], RE.rd k_Handle A27 cp28 el15, RE.cells g37 (o38 + (y3_1).toNat * 1) [.slice A44 el32.length cp45], RE.rd k_Handle A44 cp45 el32]) [] [1, 3, 4, 6, 7, 9, 10, 11, 13, 14, 15, 17, 19, 20, 21, 22, 23] mixed0 (by kernel_rfl) (by kernel_rfl) (by kernel_rfl) (by rfl) (by exact H.drew) ?_
       obtain ⟨w63, hW⟩ : ∃ W : World, W = { w14 with drawn := w14.drawn + 1 } := ⟨_, rfl⟩
       rw [← hW]
       have H : Sep ok w w63 [.blk b9 79 [.slice A1 a0.Arena.Slots.length cp2, .slice A5 a0.Kids.length cp6]] [RE.rd k_Slot A1 cp2 a0.Arena.Slots, RE.rd (Kd.slice k_Handle) A5 cp6 a0.Kids, RE.cells g20 (o21 + (y3_1).toNat * 1) [.slice A27 el15.length cp28], RE.rd k_Handle A27 cp28 el15, RE.cells g37 (o38 + (y3_1).toNat * 1) [.slice A44 el32.length cp45], RE.rd k_Handle A44 cp45 el32] := by rw [hW]; exact H.drew
       clear hW
       refine PR_take (by rfl) (by rfl) (by rfl) (by exact wn0 rfl) (fun wS (H : Sep ok w wS [.blk b9 79 [.slice A1 a0.Arena.Slots.length cp2, .slice A5 a0.Kids.length cp6]] [RE.rd k_Slot A1 cp2 a0.Arena.Slots, RE.rd (Kd.slice k_Handle) A5 cp6 a0.Kids, RE.cells g20 (o21 + (y3_1).toNat * 1) [.slice A27 el15.length cp28], RE.rd k_Handle A27 cp28 el15, RE.cells g37 (o38 + (y3_1).toNat * 1) [.slice A44 el32.length cp45], RE.rd k_Handle A44 cp45 el32]) => (x_loadA (j := 0) (vs := [.slice A1 a0.Arena.Slots.length cp2, .slice A5 a0.Kids.length cp6]) ag79 (by rfl) (H.cells (i := 0) (by rfl)) (by rfl) (by rfl))) ?_
       refine PR_free (by rfl) (by rfl) (by rfl) (by exact wn0 rfl) (fun wS => (x_fieldAddr fo79_1 (by rfl))) ?_
       refine PR_take (by rfl) (by rfl) (by rfl) (by exact wn0 rfl) (fun wS (H : Sep ok w wS [.blk b9 79 [.slice A1 a0.Arena.Slots.length cp2, .slice A5 a0.Kids.length cp6]] [RE.rd k_Slot A1 cp2 a0.Arena.Slots, RE.rd (Kd.slice k_Handle) A5 cp6 a0.Kids, RE.cells g20 (o21 + (y3_1).toNat * 1) [.slice A27 el15.length cp28], RE.rd k_Handle A27 cp28 el15, RE.cells g37 (o38 + (y3_1).toNat * 1) [.slice A44 el32.length cp45], RE.rd k_Handle A44 cp45 el32]) => (x_load (j := 1) (v := .slice A5 a0.Kids.length cp6) sc77 (by rfl) (H.cells (i := 0) (by rfl)) (by rfl))) ?_
       refine PR_free (by rfl) (by rfl) (by rfl) (by exact wn0 rfl) (fun wS => (x_move (v := .int .i64 y3_1) (by rfl))) ?_
       refine PR_free (by rfl) (by rfl) (by rfl) (by exact wn0 rfl) (fun wS => (x_indexAddr sl77 sz87 (by rfl) (by rfl) hA36 h33 h34)) ?_
       refine PR_take (by rfl) (by rfl) (by rfl) (by exact wn0 rfl) (fun wS (H : Sep ok w wS [.blk b9 79 [.slice A1 a0.Arena.Slots.length cp2, .slice A5 a0.Kids.length cp6]] [RE.rd k_Slot A1 cp2 a0.Arena.Slots, RE.rd (Kd.slice k_Handle) A5 cp6 a0.Kids, RE.cells g20 (o21 + (y3_1).toNat * 1) [.slice A27 el15.length cp28], RE.rd k_Handle A27 cp28 el15, RE.cells g37 (o38 + (y3_1).toNat * 1) [.slice A44 el32.length cp45], RE.rd k_Handle A44 cp45 el32]) => (x_load (j := 0) (v := .slice A44 el32.length cp45) sc87 (by rfl) (H.cellsR (i := 4) (by rfl)) (by rfl))) ?_
       refine PR_free (by rfl) (by rfl) (by rfl) (by exact wn0 rfl) (fun wS => (x_move (v := .int .i64 y4_2) (by rfl))) ?_
       refine PR_free (by rfl) (by rfl) (by rfl) (by exact wn0 rfl) (fun wS => (x_indexAddr sl87 sz81 (by rfl) (by rfl) hA53 h50 h51)) ?_
       refine PR_take (by rfl) (by rfl) (by rfl) (by exact wn0 rfl) (fun wS (H : Sep ok w wS [.blk b9 79 [.slice A1 a0.Arena.Slots.length cp2, .slice A5 a0.Kids.length cp6]] [RE.rd k_Slot A1 cp2 a0.Arena.Slots, RE.rd (Kd.slice k_Handle) A5 cp6 a0.Kids, RE.cells g20 (o21 + (y3_1).toNat * 1) [.slice A27 el15.length cp28], RE.rd k_Handle A27 cp28 el15, RE.cells g37 (o38 + (y3_1).toNat * 1) [.slice A44 el32.length cp45], RE.rd k_Handle A44 cp45 el32]) => (x_loadA (j := 0) (vs := [.int .i64 el49.Slot, .int .i64 el49.Gen]) ag81 (by rfl) (Rd.flatAt (n := 2) (H.rd (i := 5) (by rfl)) hA53 he52) (by rfl) (by rfl))) ?_
       refine PR_free (by rfl) (by rfl) (by rfl) (by exact wn0 rfl) (fun wS => (x_move (v := .int .i64 y3_1) (by rfl))) ?_
       refine PR_free (by rfl) (by rfl) (by rfl) (by exact wn0 rfl) (fun wS => (x_fieldAddr fo79_0 (by rfl))) ?_
       refine PR_free (by rfl) (by rfl) (by rfl) (by exact wn0 rfl) (fun wS => (x_fieldAddr fo76_0 (by rfl))) ?_
       refine PR_take (by rfl) (by rfl) (by rfl) (by exact wn0 rfl) (fun wS (H : Sep ok w wS [.blk b9 79 [.slice A1 a0.Arena.Slots.length cp2, .slice A5 a0.Kids.length cp6]] [RE.rd k_Slot A1 cp2 a0.Arena.Slots, RE.rd (Kd.slice k_Handle) A5 cp6 a0.Kids, RE.cells g20 (o21 + (y3_1).toNat * 1) [.slice A27 el15.length cp28], RE.rd k_Handle A27 cp28 el15, RE.cells g37 (o38 + (y3_1).toNat * 1) [.slice A44 el32.length cp45], RE.rd k_Handle A44 cp45 el32]) => (x_load (j := 0) (v := .slice A1 a0.Arena.Slots.length cp2) sc74 (by rfl) (H.cells (i := 0) (by rfl)) (by rfl))) ?_
       refine PR_free (by rfl) (by rfl) (by rfl) (by exact wn0 rfl) (fun wS => (x_move (v := .int .i64 y3_1) (by rfl))) ?_
       refine PR_free (by rfl) (by rfl) (by rfl) (by exact wn0 rfl) (fun wS => (x_indexAddr sl74 sz96 (by rfl) (by rfl) hA60 h57 h58)) ?_
       refine PR_free (by rfl) (by rfl) (by rfl) (by exact wn0 rfl) (fun wS => (x_fieldAddr fo96_0 (by rfl))) ?_
       refine PR_take (by rfl) (by rfl) (by rfl) (by exact wn0 rfl) (fun wS (H : Sep ok w wS [.blk b9 79 [.slice A1 a0.Arena.Slots.length cp2, .slice A5 a0.Kids.length cp6]] [RE.rd k_Slot A1 cp2 a0.Arena.Slots, RE.rd (Kd.slice k_Handle) A5 cp6 a0.Kids, RE.cells g20 (o21 + (y3_1).toNat * 1) [.slice A27 el15.length cp28], RE.rd k_Handle A27 cp28 el15, RE.cells g37 (o38 + (y3_1).toNat * 1) [.slice A44 el32.length cp45], RE.rd k_Handle A44 cp45 el32]) => (x_load (j := 0) (v := .int .i64 el56.Gen) sc3 (by rfl) (Rd.flatAt (n := 2) (H.rd (i := 0) (by rfl)) hA60 he59) (by rfl))) ?_
       refine PR_free (by rfl) (by rfl) (by rfl) (by exact wn0 rfl) (fun wS => (x_build (vs := [(0, .int .i64 y3_1), (1, .int .i64 el56.Gen)]) (cs := [.int .i64 y3_1, .int .i64 el56.Gen]) (by rfl) (by kernel_rfl))) ?_
       obtain ⟨v65, hv64, hm⟩ := bind_some hm
       refine PR_run (by rfl) (O_call (by exact wn0 rfl) (by rfl) (by rfl) (x_callL (by rfl) (args := [.agg #[.slice A1 a0.Arena.Slots.length cp2, .slice A5 a0.Kids.length cp6], .agg #[.int .i64 el49.Slot, .int .i64 el49.Gen], .agg #[.int .i64 y3_1, .int .i64 el56.Gen]]) (by rfl) (cf46 _ _)) (c46 okT K w63 a0 A1 cp2 A5 cp6 el49 (⟨y3_1, el56.Gen⟩ : S_Handle) (H.rd (i := 0) (by rfl)).any (H.rd (i := 1) (by rfl)).any v65 hv64) ?_)
       rintro e w66 ⟨rfl, H2⟩
       have H : Sep ok w w66 [.blk b9 79 [.slice A1 a0.Arena.Slots.length cp2, .slice A5 a0.Kids.length cp6]] [RE.rd k_Slot A1 cp2 a0.Arena.Slots, RE.rd (Kd.slice k_Handle) A5 cp6 a0.Kids, RE.cells g20 (o21 + (y3_1).toNat * 1) [.slice A27 el15.length cp28], RE.rd k_Handle A27 cp28 el15, RE.cells g37 (o38 + (y3_1).toNat * 1) [.slice A44 el32.length cp45], RE.rd k_Handle A44 cp45 el32] := H.below H2.base
       clear H2
       refine ⟨_, rfl, H, ?_⟩
       show PR _ _ _ _ _ _ _ _
       refine PR_free (by rfl) (by rfl) (by rfl) (by exact wn0 rfl) (fun wS => (x_move (v := tup [.bool v65.1, .int .i64 v65.2]) (by rfl))) ?_
       refine PR_free (by rfl) (by rfl) (by rfl) (by exact wn0 rfl) (fun wS => (x_extract (v := .bool v65.1) (by rfl) (by rfl))) ?_
       refine PR_free (by rfl) (by rfl) (by rfl) (by exact wn0 rfl) (fun wS => (x_extract (v := .int .i64 v65.2) (by rfl) (by rfl))) ?_
       refine PR_free (by rfl) (by rfl) (by rfl) (by exact wn0 rfl) (fun wS => (x_assign (v := .bool v65.1) (by rfl))) ?_
       refine PR_free (by rfl) (by rfl) (by rfl) (by exact wn0 rfl) (fun wS => (x_assign (v := .int .i64 v65.2) (by rfl))) ?_
       refine PR_nil ?_
       refine W_seq ?_
       refine W_region ?_
       refine RL_pure (by exact wn0 rfl) (by rfl) (by rfl) (x_move (v := .int .i64 v65.2) (by rfl)) ?_
       refine RL_pure (by exact wn0 rfl) (by rfl) (by rfl) (x_neq (by rfl) (by rfl)) ?_
       refine RL_pure (by exact wn0 rfl) (by rfl) (by rfl) (x_move (v := .bool (v65.2 != 0)) (by rfl)) ?_
       obtain ⟨b67, hmS, hm⟩ := bind_some hm
       refine RL_cut 2 (fun r' w' => Agr [(50, .bool b67), (1, .pointer (some ⟨b9, 0, none⟩)), (3, .int .i64 y3_1), (4, .int .i64 y4_2)] r' ∧ Sep ok w w' [.blk b9 79 [.slice A1 a0.Arena.Slots.length cp2, .slice A5 a0.Kids.length cp6]] [RE.rd k_Slot A1 cp2 a0.Arena.Slots, RE.rd (Kd.slice k_Handle) A5 cp6 a0.Kids, RE.cells g20 (o21 + (y3_1).toNat * 1) [.slice A27 el15.length cp28], RE.rd k_Handle A27 cp28 el15, RE.cells g37 (o38 + (y3_1).toNat * 1) [.slice A44 el32.length cp45], RE.rd k_Handle A44 cp45 el32]) ?_ ?_
       ·cases hbS : (v65.2 != 0)
        ·have hm := cond_f hbS hmS
         refine RL_pure (by exact wn1 rfl rfl rfl rfl) (by rfl) (by rfl) (x_move (v := .bool v65.1) (by rfl)) ?_
         refine RL_pure (by exact wn0 rfl) (by rfl) (by rfl) (x_pick_f (v := .bool v65.1) (by rfl) (by rfl)) ?_
         refine RL_nil ?_
         exact ⟨⟨congrArg Value.bool (Option.some.inj hm), rfl, rfl, rfl, trivial⟩, H⟩
        ·have hm := cond_t hbS hmS
         refine RL_cons (OpR_off (by exact wn2 rfl rfl rfl rfl) (by rfl) (by rfl) ?_)
         refine RL_pure (by exact wn0 rfl) (by rfl) (by rfl) (x_pick_t (v := .bool true) (by rfl) (by rfl)) ?_
         refine RL_nil ?_
         exact ⟨⟨congrArg Value.bool (Option.some.inj hm), rfl, rfl, rfl, trivial⟩, H⟩
       ·rintro r' w' ⟨hA, H⟩
        obtain ⟨r68, rfl⟩ := regen _ hA; clear hA
        obtain ⟨w69, rfl⟩ : ∃ W : World, W = w' := ⟨_, rfl⟩
        show RL _ _ _ _ _ _ _
        refine RL_nil ?_
        refine W_cond (by rfl) (fun hb => ?_) (fun hb => ?_)
        ·have hm := cond_t hb hm
         refine W_seq ?_
         refine W_region ?_
         refine RL_pure (by exact wn0 rfl) (by rfl) (by rfl) (x_assign (v := .bool false) (by rfl)) ?_
         refine RL_nil ?_
         refine W_ret ?_
         obtain rfl := Option.some.inj hm
         exact ⟨[.bool false], (.tmp (by rfl) rfl), rfl, H.none_⟩
        ·have hm := cond_f hb hm
         refine W_skip ?_
         refine W_region ?_
         refine RL_pure (by exact wn0 rfl) (by rfl) (by rfl) (x_move (v := .int .i64 y4_2) (by rfl)) ?_
         obtain ⟨x70, ex70, qx70, ux70, hm⟩ := ck_some hm
         refine RL_pure (by exact wn0 rfl) (by rfl) (by rfl) (x_add (by rfl) (by rfl) ux70) ?_
         refine RL_pure (by exact wn0 rfl) (by rfl) (by rfl) (x_assign (v := .int .i64 x70) (by rfl)) ?_
         refine RL_nil ?_
         subst hrec2
         exact ⟨k2, Nat.lt_succ_self k2, x70, hm, ⟨rfl, rfl, rfl, trivial⟩, (H).pick [0, 1]⟩
      ·have hm := cond_f hb hm
       refine W_exit ?_
       refine W_region ?_
       refine RL_pure (by exact wn0 rfl) (by rfl) (by rfl) (x_move (v := .int .i64 y3_1) (by rfl)) ?_
       obtain ⟨x71, ex71, qx71, ux71, hm⟩ := ck_some hm
       refine RL_pure (by exact wn0 rfl) (by rfl) (by rfl) (x_add (by rfl) (by rfl) ux71) ?_
       refine RL_pure (by exact wn0 rfl) (by rfl) (by rfl) (x_assign (v := .int .i64 x71) (by rfl)) ?_
       refine RL_nil ?_
       subst hrec1
       exact ⟨k1, Nat.lt_succ_self k1, x71, hm, ⟨rfl, rfl, trivial⟩, (H).pick [0, 1]⟩
   ·have hm := cond_f hb hm
    refine W_exit ?_
    refine W_seq ?_
    refine W_region ?_
    refine RL_pure (by exact wn0 rfl) (by rfl) (by rfl) (x_assign (v := .bool true) (by rfl)) ?_
    refine RL_nil ?_
    refine W_ret ?_
    obtain rfl := Option.some.inj hm
    exact ⟨[.bool true], (.tmp (by rfl) rfl), rfl, H.none_⟩
end Go.Proofs.YtobkigllalbkiaaV.M
