/- Part 4 of the texts that the proof of NodesNames stands on. -/
import Derived.Test.YtobkigllalbkiaaNodesNamesZC
/- A plain Lean function that answers as the Go function does (none: not told), and the proof that a call answers so. Written by program. -/
set_option linter.unusedVariables false
namespace Go.Proofs.YtobkigllalbkiaaV.M
open Go.RowKit Go.Proofs.YtobkigllalbkiaaV
/-- diorama/dioramalaw06.three -/
def m37 (K : Nat)  : Option (S_Graph × (Ar3 S_Handle) × Bool) :=
 ((m45 K (⟨(⟨[]⟩ : S_Arena), []⟩ : S_Graph)).bind fun v10 => ((m45 K v10.1).bind fun v27 => ((bif (v10.2.2 == 0) then some (v27.2.2 == 0) else some false).bind fun b41 => ((m45 K v27.1).bind fun v47 => ((bif b41 then some (v47.2.2 == 0) else some false).bind fun b61 => ((m38 K v47.1 v10.2.1 v27.2.1 0).bind fun v67 => ((m38 K v67.1 v10.2.1 v27.2.1 1).bind fun v79 => ((m38 K v79.1 v27.2.1 v47.2.1 0).bind fun v91 => ((bif b61 then some (v67.2 == 0) else some false).bind fun b103 => ((bif b103 then some (v79.2 == 0) else some false).bind fun b106 => ((bif b106 then some (v91.2 == 0) else some false).bind fun b109 => some (v91.1, (⟨v10.2.1, v27.2.1, v47.2.1⟩ : (Ar3 S_Handle)), b109))))))))))))
set_option maxRecDepth 100000 in
set_option maxHeartbeats 4000000 in
theorem c37 (ok : Okp) (K : Nat) (w : World)  (res : S_Graph × (Ar3 S_Handle) × Bool) (hm : m37 K  = some res) :
  Calls Try.prog 37 #[] w (fun e w' => ∃ (A0_ : Option Addr) (c0_ : Nat), ∃ (A1_ : Option Addr) (c1_ : Nat), e = .returned (tup [.agg #[.slice A0_ res.1.Arena.Slots.length c0_, .slice A1_ res.1.Kids.length c1_], .agg #[.int .i64 res.2.1.a0.Slot, .int .i64 res.2.1.a0.Gen, .int .i64 res.2.1.a1.Slot, .int .i64 res.2.1.a1.Gen, .int .i64 res.2.1.a2.Slot, .int .i64 res.2.1.a2.Gen], .bool res.2.2]) ∧ Sep ok w w' [] [RE.rd k_Slot A0_ c0_ res.1.Arena.Slots, RE.rd (Kd.slice k_Handle) A1_ c1_ res.1.Kids]) := by
 refine calls_W (args := []) Try.func37 rfl Try.ntmps37 Try.results37 rfl fun r hr => ?_
 obtain ⟨r1, rfl⟩ : ∃ R, R = r := ⟨_, rfl⟩
 have H : Sep ok w w [] [] := Sep.start ok w
 unfold m37 at hm
 refine W_seq ?_
 refine W_region ?_
 refine RL_cons (O_alloc (by exact wn0 rfl) (by rfl) ze79 (by rfl) H (fun w2 b1 (H : Sep ok w w2 [.blk b1 79 [.slice none 0 0, .slice none 0 0]] []) => ?_))
 refine RL_cons (O_alloc (by exact wn0 rfl) (by rfl) ze82 (by rfl) H (fun w4 b3 (H : Sep ok w w4 [.blk b1 79 [.slice none 0 0, .slice none 0 0], .blk b3 82 [.int .i64 0, .int .i64 0, .int .i64 0, .int .i64 0, .int .i64 0, .int .i64 0]] []) => ?_))
 refine RL_pure (by exact wn0 rfl) (by rfl) (by rfl) (x_assign (v := .bool false) (by rfl)) ?_
 refine RL_nil ?_
 refine W_seq ?_
 refine W_region ?_
 refine RL_cons (O_alloc (by exact wn0 rfl) (by rfl) ze79 (by rfl) H (fun w6 b5 (H : Sep ok w w6 [.blk b1 79 [.slice none 0 0, .slice none 0 0], .blk b3 82 [.int .i64 0, .int .i64 0, .int .i64 0, .int .i64 0, .int .i64 0, .int .i64 0], .blk b5 79 [.slice none 0 0, .slice none 0 0]] []) => ?_))
 refine RL_nil ?_
 refine W_seq ?_
 refine W_region ?_
 refine RL_cons (O_alloc (by exact wn0 rfl) (by rfl) ze82 (by rfl) H (fun w8 b7 (H : Sep ok w w8 [.blk b1 79 [.slice none 0 0, .slice none 0 0], .blk b3 82 [.int .i64 0, .int .i64 0, .int .i64 0, .int .i64 0, .int .i64 0, .int .i64 0], .blk b5 79 [.slice none 0 0, .slice none 0 0], .blk b7 82 [.int .i64 0, .int .i64 0, .int .i64 0, .int .i64 0, .int .i64 0, .int .i64 0]] []) => ?_))
 refine RL_nil ?_
 refine W_seq ?_
 refine W_region ?_
 refine RL_pure (by exact wn0 rfl) (by rfl) (by rfl) (x_assign (v := .bool true) (by rfl)) ?_
 refine RL_nil ?_
 refine W_seq ?_
 refine W_seq ?_
 refine W_region ?_
 refine RL_pure (by exact wn0 rfl) (by rfl) (by rfl) (x_assign (v := .int .i64 0) (by rfl)) ?_
 refine RL_nil ?_
 refine W_block ?_
 refine W_unroll 40 ?_
 refine WU_succ ?_
 refine W_seq ?_
 refine W_seq ?_
 refine W_region ?_
 refine RL_pure (by exact wn0 rfl) (by rfl) (by rfl) (x_move (v := .int .i64 0) (by rfl)) ?_
 refine RL_pure (by exact wn0 rfl) (by rfl) (by rfl) (x_lss (by rfl) (by rfl)) ?_
 refine RL_nil ?_
 refine W_cond (t := true) (by first | rfl | decide) (fun _ => ?_) (fun hb => by cases hb)
 refine W_skip ?_
 refine W_seq ?_
 refine W_block ?_
 refine W_seq ?_
 refine W_region ?_
 refine RL_pure (by exact wn0 rfl) (by rfl) (by rfl) (x_loadA (j := 0) (vs := [.slice none 0 0, .slice none 0 0]) ag79 (by rfl) (H.cells (i := 2) (by rfl)) (by rfl) (by rfl)) ?_
 obtain ⟨v10, hv9, hm⟩ := bind_some hm
 refine RL_cons (O_call (by exact wn0 rfl) (by rfl) (by rfl) (x_callL (by rfl) (args := [.agg #[.slice none 0 0, .slice none 0 0]]) (by rfl) (cf45 _ _)) (c45 (okS ok w [.blk b1 79 [.slice none 0 0, .slice none 0 0], .blk b3 82 [.int .i64 0, .int .i64 0, .int .i64 0, .int .i64 0, .int .i64 0, .int .i64 0], .blk b5 79 [.slice none 0 0, .slice none 0 0], .blk b7 82 [.int .i64 0, .int .i64 0, .int .i64 0, .int .i64 0, .int .i64 0, .int .i64 0]]) K w8 (⟨(⟨[]⟩ : S_Arena), []⟩ : S_Graph) none 0 none 0 (Rd.nil (by decide)) (Rd.nil (by decide)) v10 hv9) ?_)
 rintro e w11 ⟨A12, cp13, A15, cp16, rfl, H2⟩
 have H : Sep ok w w11 [.blk b1 79 [.slice none 0 0, .slice none 0 0], .blk b3 82 [.int .i64 0, .int .i64 0, .int .i64 0, .int .i64 0, .int .i64 0, .int .i64 0], .blk b5 79 [.slice none 0 0, .slice none 0 0], .blk b7 82 [.int .i64 0, .int .i64 0, .int .i64 0, .int .i64 0, .int .i64 0, .int .i64 0]] [RE.rd k_Slot A12 cp13 v10.1.Arena.Slots, RE.rd (Kd.slice k_Handle) A15 cp16 v10.1.Kids] := H.call H2
 clear H2
 refine ⟨_, rfl, ?_⟩
 show RL _ _ _ _ _ _ _
 refine RL_pure (by exact wn0 rfl) (by rfl) (by rfl) (x_move (v := tup [.agg #[.slice A12 v10.1.Arena.Slots.length cp13, .slice A15 v10.1.Kids.length cp16], .agg #[.int .i64 v10.2.1.Slot, .int .i64 v10.2.1.Gen], .int .i64 v10.2.2]) (by rfl)) ?_
 refine RL_pure (by exact wn0 rfl) (by rfl) (by rfl) (x_extract (v := .agg #[.slice A12 v10.1.Arena.Slots.length cp13, .slice A15 v10.1.Kids.length cp16]) (by rfl) (by rfl)) ?_
 refine RL_pure (by exact wn0 rfl) (by rfl) (by rfl) (x_extract (v := .agg #[.int .i64 v10.2.1.Slot, .int .i64 v10.2.1.Gen]) (by rfl) (by rfl)) ?_
 refine RL_pure (by exact wn0 rfl) (by rfl) (by rfl) (x_extract (v := .int .i64 v10.2.2) (by rfl) (by rfl)) ?_
 refine RL_cons (O_alloc (by exact wn0 rfl) (by rfl) ze79 (by rfl) H (fun w19 b18 (H : Sep ok w w19 [.blk b1 79 [.slice none 0 0, .slice none 0 0], .blk b3 82 [.int .i64 0, .int .i64 0, .int .i64 0, .int .i64 0, .int .i64 0, .int .i64 0], .blk b5 79 [.slice none 0 0, .slice none 0 0], .blk b7 82 [.int .i64 0, .int .i64 0, .int .i64 0, .int .i64 0, .int .i64 0, .int .i64 0], .blk b18 79 [.slice none 0 0, .slice none 0 0]] [RE.rd k_Slot A12 cp13 v10.1.Arena.Slots, RE.rd (Kd.slice k_Handle) A15 cp16 v10.1.Kids]) => ?_))
 refine RL_cons (O_alloc (by exact wn0 rfl) (by rfl) ze81 (by rfl) H (fun w21 b20 (H : Sep ok w w21 [.blk b1 79 [.slice none 0 0, .slice none 0 0], .blk b3 82 [.int .i64 0, .int .i64 0, .int .i64 0, .int .i64 0, .int .i64 0, .int .i64 0], .blk b5 79 [.slice none 0 0, .slice none 0 0], .blk b7 82 [.int .i64 0, .int .i64 0, .int .i64 0, .int .i64 0, .int .i64 0, .int .i64 0], .blk b18 79 [.slice none 0 0, .slice none 0 0], .blk b20 81 [.int .i64 0, .int .i64 0]] [RE.rd k_Slot A12 cp13 v10.1.Arena.Slots, RE.rd (Kd.slice k_Handle) A15 cp16 v10.1.Kids]) => ?_))
 refine RL_cons (O_store (i := 4) (off := 0) (by exact wn0 rfl) (by rfl) (by rfl) H (by rfl) (vs := [.slice A12 v10.1.Arena.Slots.length cp13, .slice A15 v10.1.Kids.length cp16]) (by rfl) sz79 (by rfl) (by rfl) (by rfl) (fun w22 (H : Sep ok w w22 [.blk b1 79 [.slice none 0 0, .slice none 0 0], .blk b3 82 [.int .i64 0, .int .i64 0, .int .i64 0, .int .i64 0, .int .i64 0, .int .i64 0], .blk b5 79 [.slice none 0 0, .slice none 0 0], .blk b7 82 [.int .i64 0, .int .i64 0, .int .i64 0, .int .i64 0, .int .i64 0, .int .i64 0], .blk b18 79 [.slice A12 v10.1.Arena.Slots.length cp13, .slice A15 v10.1.Kids.length cp16], .blk b20 81 [.int .i64 0, .int .i64 0]] [RE.rd k_Slot A12 cp13 v10.1.Arena.Slots, RE.rd (Kd.slice k_Handle) A15 cp16 v10.1.Kids]) => ?_))
 refine RL_cons (O_store (i := 5) (off := 0) (by exact wn0 rfl) (by rfl) (by rfl) H (by rfl) (vs := [.int .i64 v10.2.1.Slot, .int .i64 v10.2.1.Gen]) (by rfl) sz81 (by rfl) (by rfl) (by rfl) (fun w23 (H : Sep ok w w23 [.blk b1 79 [.slice none 0 0, .slice none 0 0], .blk b3 82 [.int .i64 0, .int .i64 0, .int .i64 0, .int .i64 0, .int .i64 0, .int .i64 0], .blk b5 79 [.slice none 0 0, .slice none 0 0], .blk b7 82 [.int .i64 0, .int .i64 0, .int .i64 0, .int .i64 0, .int .i64 0, .int .i64 0], .blk b18 79 [.slice A12 v10.1.Arena.Slots.length cp13, .slice A15 v10.1.Kids.length cp16], .blk b20 81 [.int .i64 v10.2.1.Slot, .int .i64 v10.2.1.Gen]] [RE.rd k_Slot A12 cp13 v10.1.Arena.Slots, RE.rd (Kd.slice k_Handle) A15 cp16 v10.1.Kids]) => ?_))
 refine RL_pure (by exact wn0 rfl) (by rfl) (by rfl) (x_assign (v := .int .i64 v10.2.2) (by rfl)) ?_
 refine RL_nil ?_
 refine W_seq ?_
 refine W_region ?_
 refine RL_pure (by exact wn0 rfl) (by rfl) (by rfl) (x_move (v := .bool true) (by rfl)) ?_
 refine RL_pure (by exact wn0 rfl) (by rfl) (by rfl) (x_move (v := .bool true) (by rfl)) ?_
 refine RL_pure (by exact wn1 rfl rfl rfl rfl) (by rfl) (by rfl) (x_move (v := .int .i64 v10.2.2) (by rfl)) ?_
 refine RL_pure (by exact wn1 rfl rfl rfl rfl) (by rfl) (by rfl) (x_eql (by rfl) (by rfl)) ?_
 refine RL_pure (by exact wn0 rfl) (by rfl) (by rfl) (x_pick_t (v := .bool (v10.2.2 == 0)) (by rfl) (by rfl)) ?_
 refine RL_pure (by exact wn0 rfl) (by rfl) (by rfl) (x_assign (v := .bool (v10.2.2 == 0)) (by rfl)) ?_
 refine RL_nil ?_
 refine W_seq ?_
 refine W_region ?_
 refine RL_pure (by exact wn0 rfl) (by rfl) (by rfl) (x_loadA (j := 0) (vs := [.slice A12 v10.1.Arena.Slots.length cp13, .slice A15 v10.1.Kids.length cp16]) ag79 (by rfl) (H.cells (i := 4) (by rfl)) (by rfl) (by rfl)) ?_
 refine RL_cons (O_store (i := 2) (off := 0) (by exact wn0 rfl) (by rfl) (by rfl) H (by rfl) (vs := [.slice A12 v10.1.Arena.Slots.length cp13, .slice A15 v10.1.Kids.length cp16]) (by rfl) sz79 (by rfl) (by rfl) (by rfl) (fun w24 (H : Sep ok w w24 [.blk b1 79 [.slice none 0 0, .slice none 0 0], .blk b3 82 [.int .i64 0, .int .i64 0, .int .i64 0, .int .i64 0, .int .i64 0, .int .i64 0], .blk b5 79 [.slice A12 v10.1.Arena.Slots.length cp13, .slice A15 v10.1.Kids.length cp16], .blk b7 82 [.int .i64 0, .int .i64 0, .int .i64 0, .int .i64 0, .int .i64 0, .int .i64 0], .blk b18 79 [.slice A12 v10.1.Arena.Slots.length cp13, .slice A15 v10.1.Kids.length cp16], .blk b20 81 [.int .i64 v10.2.1.Slot, .int .i64 v10.2.1.Gen]] [RE.rd k_Slot A12 cp13 v10.1.Arena.Slots, RE.rd (Kd.slice k_Handle) A15 cp16 v10.1.Kids]) => ?_))
 refine RL_nil ?_
 refine W_region ?_
 refine RL_pure (by exact wn0 rfl) (by rfl) (by rfl) (x_move (v := .int .i64 0) (by rfl)) ?_
 refine RL_pure (by exact wn0 rfl) (by rfl) (by rfl) (x_loadA (j := 0) (vs := [.int .i64 v10.2.1.Slot, .int .i64 v10.2.1.Gen]) ag81 (by rfl) (H.cells (i := 5) (by rfl)) (by rfl) (by rfl)) ?_
 refine RL_pure (by exact wn0 rfl) (by rfl) (by rfl) (x_indexArr ar82 sz81 (by rfl) (by rfl) (by decide) (by decide)) ?_
 refine RL_cons (O_store (i := 3) (off := 0) (by exact wn0 rfl) (by rfl) (by rfl) H (by rfl) (vs := [.int .i64 v10.2.1.Slot, .int .i64 v10.2.1.Gen]) (by rfl) sz81 (by rfl) (by rfl) (by rfl) (fun w25 (H : Sep ok w w25 [.blk b1 79 [.slice none 0 0, .slice none 0 0], .blk b3 82 [.int .i64 0, .int .i64 0, .int .i64 0, .int .i64 0, .int .i64 0, .int .i64 0], .blk b5 79 [.slice A12 v10.1.Arena.Slots.length cp13, .slice A15 v10.1.Kids.length cp16], .blk b7 82 [.int .i64 v10.2.1.Slot, .int .i64 v10.2.1.Gen, .int .i64 0, .int .i64 0, .int .i64 0, .int .i64 0], .blk b18 79 [.slice A12 v10.1.Arena.Slots.length cp13, .slice A15 v10.1.Kids.length cp16], .blk b20 81 [.int .i64 v10.2.1.Slot, .int .i64 v10.2.1.Gen]] [RE.rd k_Slot A12 cp13 v10.1.Arena.Slots, RE.rd (Kd.slice k_Handle) A15 cp16 v10.1.Kids]) => ?_))
 refine RL_nil ?_
 refine W_region ?_
 refine RL_pure (by exact wn0 rfl) (by rfl) (by rfl) (x_move (v := .int .i64 0) (by rfl)) ?_
 refine RL_pure (by exact wn0 rfl) (by rfl) (by rfl) (x_add (c := 1) (by rfl) (by rfl) (by decide)) ?_
 refine RL_pure (by exact wn0 rfl) (by rfl) (by rfl) (x_assign (v := .int .i64 1) (by rfl)) ?_
 refine RL_nil ?_
 refine WU_succ ?_
 refine W_seq ?_
 refine W_seq ?_
 refine W_region ?_
 refine RL_pure (by exact wn0 rfl) (by rfl) (by rfl) (x_move (v := .int .i64 1) (by rfl)) ?_
 refine RL_pure (by exact wn0 rfl) (by rfl) (by rfl) (x_lss (by rfl) (by rfl)) ?_
 refine RL_nil ?_
 refine W_cond (t := true) (by first | rfl | decide) (fun _ => ?_) (fun hb => by cases hb)
 refine W_skip ?_
 refine W_seq ?_
 refine W_block ?_
 refine W_seq ?_
 refine W_region ?_
 refine RL_pure (by exact wn0 rfl) (by rfl) (by rfl) (x_loadA (j := 0) (vs := [.slice A12 v10.1.Arena.Slots.length cp13, .slice A15 v10.1.Kids.length cp16]) ag79 (by rfl) (H.cells (i := 2) (by rfl)) (by rfl) (by rfl)) ?_
 obtain ⟨v27, hv26, hm⟩ := bind_some hm
 refine RL_cons (O_call (by exact wn0 rfl) (by rfl) (by rfl) (x_callL (by rfl) (args := [.agg #[.slice A12 v10.1.Arena.Slots.length cp13, .slice A15 v10.1.Kids.length cp16]]) (by rfl) (cf45 _ _)) (c45 (okS ok w [.blk b1 79 [.slice none 0 0, .slice none 0 0], .blk b3 82 [.int .i64 0, .int .i64 0, .int .i64 0, .int .i64 0, .int .i64 0, .int .i64 0], .blk b5 79 [.slice A12 v10.1.Arena.Slots.length cp13, .slice A15 v10.1.Kids.length cp16], .blk b7 82 [.int .i64 v10.2.1.Slot, .int .i64 v10.2.1.Gen, .int .i64 0, .int .i64 0, .int .i64 0, .int .i64 0], .blk b18 79 [.slice A12 v10.1.Arena.Slots.length cp13, .slice A15 v10.1.Kids.length cp16], .blk b20 81 [.int .i64 v10.2.1.Slot, .int .i64 v10.2.1.Gen]]) K w25 v10.1 A12 cp13 A15 cp16 (H.rd (i := 0) (by rfl)) (H.rd (i := 1) (by rfl)) v27 hv26) ?_)
 rintro e w28 ⟨A29, cp30, A32, cp33, rfl, H2⟩
 have H : Sep ok w w28 [.blk b1 79 [.slice none 0 0, .slice none 0 0], .blk b3 82 [.int .i64 0, .int .i64 0, .int .i64 0, .int .i64 0, .int .i64 0, .int .i64 0], .blk b5 79 [.slice A12 v10.1.Arena.Slots.length cp13, .slice A15 v10.1.Kids.length cp16], .blk b7 82 [.int .i64 v10.2.1.Slot, .int .i64 v10.2.1.Gen, .int .i64 0, .int .i64 0, .int .i64 0, .int .i64 0], .blk b18 79 [.slice A12 v10.1.Arena.Slots.length cp13, .slice A15 v10.1.Kids.length cp16], .blk b20 81 [.int .i64 v10.2.1.Slot, .int .i64 v10.2.1.Gen]] [RE.rd k_Slot A12 cp13 v10.1.Arena.Slots, RE.rd (Kd.slice k_Handle) A15 cp16 v10.1.Kids, RE.rd k_Slot A29 cp30 v27.1.Arena.Slots, RE.rd (Kd.slice k_Handle) A32 cp33 v27.1.Kids] := H.call H2
 clear H2
 refine ⟨_, rfl, ?_⟩
 show RL _ _ _ _ _ _ _
 refine RL_pure (by exact wn0 rfl) (by rfl) (by rfl) (x_move (v := tup [.agg #[.slice A29 v27.1.Arena.Slots.length cp30, .slice A32 v27.1.Kids.length cp33], .agg #[.int .i64 v27.2.1.Slot, .int .i64 v27.2.1.Gen], .int .i64 v27.2.2]) (by rfl)) ?_
 refine RL_pure (by exact wn0 rfl) (by rfl) (by rfl) (x_extract (v := .agg #[.slice A29 v27.1.Arena.Slots.length cp30, .slice A32 v27.1.Kids.length cp33]) (by rfl) (by rfl)) ?_
 refine RL_pure (by exact wn0 rfl) (by rfl) (by rfl) (x_extract (v := .agg #[.int .i64 v27.2.1.Slot, .int .i64 v27.2.1.Gen]) (by rfl) (by rfl)) ?_
 refine RL_pure (by exact wn0 rfl) (by rfl) (by rfl) (x_extract (v := .int .i64 v27.2.2) (by rfl) (by rfl)) ?_
 refine RL_cons (O_alloc (by exact wn0 rfl) (by rfl) ze79 (by rfl) H (fun w36 b35 (H : Sep ok w w36 [.blk b1 79 [.slice none 0 0, .slice none 0 0], .blk b3 82 [.int .i64 0, .int .i64 0, .int .i64 0, .int .i64 0, .int .i64 0, .int .i64 0], .blk b5 79 [.slice A12 v10.1.Arena.Slots.length cp13, .slice A15 v10.1.Kids.length cp16], .blk b7 82 [.int .i64 v10.2.1.Slot, .int .i64 v10.2.1.Gen, .int .i64 0, .int .i64 0, .int .i64 0, .int .i64 0], .blk b18 79 [.slice A12 v10.1.Arena.Slots.length cp13, .slice A15 v10.1.Kids.length cp16], .blk b20 81 [.int .i64 v10.2.1.Slot, .int .i64 v10.2.1.Gen], .blk b35 79 [.slice none 0 0, .slice none 0 0]] [RE.rd k_Slot A12 cp13 v10.1.Arena.Slots, RE.rd (Kd.slice k_Handle) A15 cp16 v10.1.Kids, RE.rd k_Slot A29 cp30 v27.1.Arena.Slots, RE.rd (Kd.slice k_Handle) A32 cp33 v27.1.Kids]) => ?_))
 refine RL_cons (O_alloc (by exact wn0 rfl) (by rfl) ze81 (by rfl) H (fun w38 b37 (H : Sep ok w w38 [.blk b1 79 [.slice none 0 0, .slice none 0 0], .blk b3 82 [.int .i64 0, .int .i64 0, .int .i64 0, .int .i64 0, .int .i64 0, .int .i64 0], .blk b5 79 [.slice A12 v10.1.Arena.Slots.length cp13, .slice A15 v10.1.Kids.length cp16], .blk b7 82 [.int .i64 v10.2.1.Slot, .int .i64 v10.2.1.Gen, .int .i64 0, .int .i64 0, .int .i64 0, .int .i64 0], .blk b18 79 [.slice A12 v10.1.Arena.Slots.length cp13, .slice A15 v10.1.Kids.length cp16], .blk b20 81 [.int .i64 v10.2.1.Slot, .int .i64 v10.2.1.Gen], .blk b35 79 [.slice none 0 0, .slice none 0 0], .blk b37 81 [.int .i64 0, .int .i64 0]] [RE.rd k_Slot A12 cp13 v10.1.Arena.Slots, RE.rd (Kd.slice k_Handle) A15 cp16 v10.1.Kids, RE.rd k_Slot A29 cp30 v27.1.Arena.Slots, RE.rd (Kd.slice k_Handle) A32 cp33 v27.1.Kids]) => ?_))
 refine RL_cons (O_store (i := 6) (off := 0) (by exact wn0 rfl) (by rfl) (by rfl) H (by rfl) (vs := [.slice A29 v27.1.Arena.Slots.length cp30, .slice A32 v27.1.Kids.length cp33]) (by rfl) sz79 (by rfl) (by rfl) (by rfl) (fun w39 (H : Sep ok w w39 [.blk b1 79 [.slice none 0 0, .slice none 0 0], .blk b3 82 [.int .i64 0, .int .i64 0, .int .i64 0, .int .i64 0, .int .i64 0, .int .i64 0], .blk b5 79 [.slice A12 v10.1.Arena.Slots.length cp13, .slice A15 v10.1.Kids.length cp16], .blk b7 82 [.int .i64 v10.2.1.Slot, .int .i64 v10.2.1.Gen, .int .i64 0, .int .i64 0, .int .i64 0, .int .i64 0], .blk b18 79 [.slice A12 v10.1.Arena.Slots.length cp13, .slice A15 v10.1.Kids.length cp16], .blk b20 81 [.int .i64 v10.2.1.Slot, .int .i64 v10.2.1.Gen], .blk b35 79 [.slice A29 v27.1.Arena.Slots.length cp30, .slice A32 v27.1.Kids.length cp33], .blk b37 81 [.int .i64 0, .int .i64 0]] [RE.rd k_Slot A12 cp13 v10.1.Arena.Slots, RE.rd (Kd.slice k_Handle) A15 cp16 v10.1.Kids, RE.rd k_Slot A29 cp30 v27.1.Arena.Slots, RE.rd (Kd.slice k_Handle) A32 cp33 v27.1.Kids]) => ?_))
 refine RL_cons (O_store (i := 7) (off := 0) (by exact wn0 rfl) (by rfl) (by rfl) H (by rfl) (vs := [.int .i64 v27.2.1.Slot, .int .i64 v27.2.1.Gen]) (by rfl) sz81 (by rfl) (by rfl) (by rfl) (fun w40 (H : Sep ok w w40 [.blk b1 79 [.slice none 0 0, .slice none 0 0], .blk b3 82 [.int .i64 0, .int .i64 0, .int .i64 0, .int .i64 0, .int .i64 0, .int .i64 0], .blk b5 79 [.slice A12 v10.1.Arena.Slots.length cp13, .slice A15 v10.1.Kids.length cp16], .blk b7 82 [.int .i64 v10.2.1.Slot, .int .i64 v10.2.1.Gen, .int .i64 0, .int .i64 0, .int .i64 0, .int .i64 0], .blk b18 79 [.slice A12 v10.1.Arena.Slots.length cp13, .slice A15 v10.1.Kids.length cp16], .blk b20 81 [.int .i64 v10.2.1.Slot, .int .i64 v10.2.1.Gen], .blk b35 79 [.slice A29 v27.1.Arena.Slots.length cp30, .slice A32 v27.1.Kids.length cp33], .blk b37 81 [.int .i64 v27.2.1.Slot, .int .i64 v27.2.1.Gen]] [RE.rd k_Slot A12 cp13 v10.1.Arena.Slots, RE.rd (Kd.slice k_Handle) A15 cp16 v10.1.Kids, RE.rd k_Slot A29 cp30 v27.1.Arena.Slots, RE.rd (Kd.slice k_Handle) A32 cp33 v27.1.Kids]) => ?_))
 refine RL_pure (by exact wn0 rfl) (by rfl) (by rfl) (x_assign (v := .int .i64 v27.2.2) (by rfl)) ?_
 refine RL_nil ?_
 refine W_seq ?_
 refine W_region ?_
 refine RL_pure (by exact wn0 rfl) (by rfl) (by rfl) (x_move (v := .bool (v10.2.2 == 0)) (by rfl)) ?_
 refine RL_pure (by exact wn0 rfl) (by rfl) (by rfl) (x_move (v := .bool (v10.2.2 == 0)) (by rfl)) ?_
 obtain ⟨b41, hmS, hm⟩ := bind_some hm
 refine RL_cut 3 (fun r' w' => Agr [(30, .bool b41), (0, .pointer (some ⟨b1, 0, none⟩)), (1, .pointer (some ⟨b3, 0, none⟩)), (3, .pointer (some ⟨b5, 0, none⟩)), (4, .pointer (some ⟨b7, 0, none⟩)), (6, .int .i64 1), (7, .pointer (some ⟨b35, 0, none⟩)), (8, .pointer (some ⟨b37, 0, none⟩))] r' ∧ Sep ok w w' [.blk b1 79 [.slice none 0 0, .slice none 0 0], .blk b3 82 [.int .i64 0, .int .i64 0, .int .i64 0, .int .i64 0, .int .i64 0, .int .i64 0], .blk b5 79 [.slice A12 v10.1.Arena.Slots.length cp13, .slice A15 v10.1.Kids.length cp16], .blk b7 82 [.int .i64 v10.2.1.Slot, .int .i64 v10.2.1.Gen, .int .i64 0, .int .i64 0, .int .i64 0, .int .i64 0], .blk b18 79 [.slice A12 v10.1.Arena.Slots.length cp13, .slice A15 v10.1.Kids.length cp16], .blk b20 81 [.int .i64 v10.2.1.Slot, .int .i64 v10.2.1.Gen], .blk b35 79 [.slice A29 v27.1.Arena.Slots.length cp30, .slice A32 v27.1.Kids.length cp33], .blk b37 81 [.int .i64 v27.2.1.Slot, .int .i64 v27.2.1.Gen]] [RE.rd k_Slot A12 cp13 v10.1.Arena.Slots, RE.rd (Kd.slice k_Handle) A15 cp16 v10.1.Kids, RE.rd k_Slot A29 cp30 v27.1.Arena.Slots, RE.rd (Kd.slice k_Handle) A32 cp33 v27.1.Kids]) ?_ ?_
 ·cases hbS : (v10.2.2 == 0)
  ·have hm := cond_f hbS hmS
   refine RL_cons (OpR_off (by exact wn2 rfl rfl rfl rfl) (by rfl) (by rfl) ?_)
   refine RL_cons (OpR_off (by exact wn2 rfl rfl rfl rfl) (by rfl) (by rfl) ?_)
   refine RL_pure (by exact wn0 rfl) (by rfl) (by rfl) (x_pick_f (v := .bool false) (by rfl) (by rfl)) ?_
   refine RL_nil ?_
   exact ⟨⟨congrArg Value.bool (Option.some.inj hm), rfl, rfl, rfl, rfl, rfl, rfl, rfl, trivial⟩, H⟩
  ·have hm := cond_t hbS hmS
   refine RL_pure (by exact wn1 rfl rfl rfl rfl) (by rfl) (by rfl) (x_move (v := .int .i64 v27.2.2) (by rfl)) ?_
   refine RL_pure (by exact wn1 rfl rfl rfl rfl) (by rfl) (by rfl) (x_eql (by rfl) (by rfl)) ?_
   refine RL_pure (by exact wn0 rfl) (by rfl) (by rfl) (x_pick_t (v := .bool (v27.2.2 == 0)) (by rfl) (by rfl)) ?_
   refine RL_nil ?_
   exact ⟨⟨congrArg Value.bool (Option.some.inj hm), rfl, rfl, rfl, rfl, rfl, rfl, rfl, trivial⟩, H⟩
 ·rintro r' w' ⟨hA, H⟩
  obtain ⟨r42, rfl⟩ := regen _ hA; clear hA
  obtain ⟨w43, rfl⟩ : ∃ W : World, W = w' := ⟨_, rfl⟩
  show RL _ _ _ _ _ _ _
  refine RL_pure (by exact wn0 rfl) (by rfl) (by rfl) (x_assign (v := .bool b41) (by rfl)) ?_
  refine RL_nil ?_
  refine W_seq ?_
  refine W_region ?_
  refine RL_pure (by exact wn0 rfl) (by rfl) (by rfl) (x_loadA (j := 0) (vs := [.slice A29 v27.1.Arena.Slots.length cp30, .slice A32 v27.1.Kids.length cp33]) ag79 (by rfl) (H.cells (i := 6) (by rfl)) (by rfl) (by rfl)) ?_
  refine RL_cons (O_store (i := 2) (off := 0) (by exact wn0 rfl) (by rfl) (by rfl) H (by rfl) (vs := [.slice A29 v27.1.Arena.Slots.length cp30, .slice A32 v27.1.Kids.length cp33]) (by rfl) sz79 (by rfl) (by rfl) (by rfl) (fun w44 (H : Sep ok w w44 [.blk b1 79 [.slice none 0 0, .slice none 0 0], .blk b3 82 [.int .i64 0, .int .i64 0, .int .i64 0, .int .i64 0, .int .i64 0, .int .i64 0], .blk b5 79 [.slice A29 v27.1.Arena.Slots.length cp30, .slice A32 v27.1.Kids.length cp33], .blk b7 82 [.int .i64 v10.2.1.Slot, .int .i64 v10.2.1.Gen, .int .i64 0, .int .i64 0, .int .i64 0, .int .i64 0], .blk b18 79 [.slice A12 v10.1.Arena.Slots.length cp13, .slice A15 v10.1.Kids.length cp16], .blk b20 81 [.int .i64 v10.2.1.Slot, .int .i64 v10.2.1.Gen], .blk b35 79 [.slice A29 v27.1.Arena.Slots.length cp30, .slice A32 v27.1.Kids.length cp33], .blk b37 81 [.int .i64 v27.2.1.Slot, .int .i64 v27.2.1.Gen]] [RE.rd k_Slot A12 cp13 v10.1.Arena.Slots, RE.rd (Kd.slice k_Handle) A15 cp16 v10.1.Kids, RE.rd k_Slot A29 cp30 v27.1.Arena.Slots, RE.rd (Kd.slice k_Handle) A32 cp33 v27.1.Kids]) => ?_))
  refine RL_nil ?_
  refine W_region ?_
  refine RL_pure (by exact wn0 rfl) (by rfl) (by rfl) (x_move (v := .int .i64 1) (by rfl)) ?_
  refine RL_pure (by exact wn0 rfl) (by rfl) (by rfl) (x_loadA (j := 0) (vs := [.int .i64 v27.2.1.Slot, .int .i64 v27.2.1.Gen]) ag81 (by rfl) (H.cells (i := 7) (by rfl)) (by rfl) (by rfl)) ?_
  refine RL_pure (by exact wn0 rfl) (by rfl) (by rfl) (x_indexArr ar82 sz81 (by rfl) (by rfl) (by decide) (by decide)) ?_
  refine RL_cons (O_store (i := 3) (off := 2) (by exact wn0 rfl) (by rfl) (by rfl) H (by rfl) (vs := [.int .i64 v27.2.1.Slot, .int .i64 v27.2.1.Gen]) (by rfl) sz81 (by rfl) (by rfl) (by rfl) (fun w45 (H : Sep ok w w45 [.blk b1 79 [.slice none 0 0, .slice none 0 0], .blk b3 82 [.int .i64 0, .int .i64 0, .int .i64 0, .int .i64 0, .int .i64 0, .int .i64 0], .blk b5 79 [.slice A29 v27.1.Arena.Slots.length cp30, .slice A32 v27.1.Kids.length cp33], .blk b7 82 [.int .i64 v10.2.1.Slot, .int .i64 v10.2.1.Gen, .int .i64 v27.2.1.Slot, .int .i64 v27.2.1.Gen, .int .i64 0, .int .i64 0], .blk b18 79 [.slice A12 v10.1.Arena.Slots.length cp13, .slice A15 v10.1.Kids.length cp16], .blk b20 81 [.int .i64 v10.2.1.Slot, .int .i64 v10.2.1.Gen], .blk b35 79 [.slice A29 v27.1.Arena.Slots.length cp30, .slice A32 v27.1.Kids.length cp33], .blk b37 81 [.int .i64 v27.2.1.Slot, .int .i64 v27.2.1.Gen]] [RE.rd k_Slot A12 cp13 v10.1.Arena.Slots, RE.rd (Kd.slice k_Handle) A15 cp16 v10.1.Kids, RE.rd k_Slot A29 cp30 v27.1.Arena.Slots, RE.rd (Kd.slice k_Handle) A32 cp33 v27.1.Kids]) => ?_))
  refine RL_nil ?_
  refine W_region ?_
  refine RL_pure (by exact wn0 rfl) (by rfl) (by rfl) (x_move (v := .int .i64 1) (by rfl)) ?_
  refine RL_pure (by exact wn0 rfl) (by rfl) (by rfl) (x_add (c := 2) (by rfl) (by rfl) (by decide)) ?_
  refine RL_pure (by exact wn0 rfl) (by rfl) (by rfl) (x_assign (v := .int .i64 2) (by rfl)) ?_
  refine RL_nil ?_
  refine WU_succ ?_
  refine W_seq ?_
  refine W_seq ?_
  refine W_region ?_
  refine RL_pure (by exact wn0 rfl) (by rfl) (by rfl) (x_move (v := .int .i64 2) (by rfl)) ?_
  refine RL_pure (by exact wn0 rfl) (by rfl) (by rfl) (x_lss (by rfl) (by rfl)) ?_
  refine RL_nil ?_
  refine W_cond (t := true) (by first | rfl | decide) (fun _ => ?_) (fun hb => by cases hb)
  refine W_skip ?_
  refine W_seq ?_
  refine W_block ?_
  refine W_seq ?_
  refine W_region ?_
  refine RL_pure (by exact wn0 rfl) (by rfl) (by rfl) (x_loadA (j := 0) (vs := [.slice A29 v27.1.Arena.Slots.length cp30, .slice A32 v27.1.Kids.length cp33]) ag79 (by rfl) (H.cells (i := 2) (by rfl)) (by rfl) (by rfl)) ?_
  obtain ⟨v47, hv46, hm⟩ := bind_some hm
  refine RL_cons (O_call (by exact wn0 rfl) (by rfl) (by rfl) (x_callL (by rfl) (args := [.agg #[.slice A29 v27.1.Arena.Slots.length cp30, .slice A32 v27.1.Kids.length cp33]]) (by rfl) (cf45 _ _)) (c45 (okS ok w [.blk b1 79 [.slice none 0 0, .slice none 0 0], .blk b3 82 [.int .i64 0, .int .i64 0, .int .i64 0, .int .i64 0, .int .i64 0, .int .i64 0], .blk b5 79 [.slice A29 v27.1.Arena.Slots.length cp30, .slice A32 v27.1.Kids.length cp33], .blk b7 82 [.int .i64 v10.2.1.Slot, .int .i64 v10.2.1.Gen, .int .i64 v27.2.1.Slot, .int .i64 v27.2.1.Gen, .int .i64 0, .int .i64 0], .blk b18 79 [.slice A12 v10.1.Arena.Slots.length cp13, .slice A15 v10.1.Kids.length cp16], .blk b20 81 [.int .i64 v10.2.1.Slot, .int .i64 v10.2.1.Gen], .blk b35 79 [.slice A29 v27.1.Arena.Slots.length cp30, .slice A32 v27.1.Kids.length cp33], .blk b37 81 [.int .i64 v27.2.1.Slot, .int .i64 v27.2.1.Gen]]) K w45 v27.1 A29 cp30 A32 cp33 (H.rd (i := 2) (by rfl)) (H.rd (i := 3) (by rfl)) v47 hv46) ?_)
  rintro e w48 ⟨A49, cp50, A52, cp53, rfl, H2⟩
  have H : Sep ok w w48 [.blk b1 79 [.slice none 0 0, .slice none 0 0], .blk b3 82 [.int .i64 0, .int .i64 0, .int .i64 0, .int .i64 0, .int .i64 0, .int .i64 0], .blk b5 79 [.slice A29 v27.1.Arena.Slots.length cp30, .slice A32 v27.1.Kids.length cp33], .blk b7 82 [.int .i64 v10.2.1.Slot, .int .i64 v10.2.1.Gen, .int .i64 v27.2.1.Slot, .int .i64 v27.2.1.Gen, .int .i64 0, .int .i64 0], .blk b18 79 [.slice A12 v10.1.Arena.Slots.length cp13, .slice A15 v10.1.Kids.length cp16], .blk b20 81 [.int .i64 v10.2.1.Slot, .int .i64 v10.2.1.Gen], .blk b35 79 [.slice A29 v27.1.Arena.Slots.length cp30, .slice A32 v27.1.Kids.length cp33], .blk b37 81 [.int .i64 v27.2.1.Slot, .int .i64 v27.2.1.Gen]] [RE.rd k_Slot A12 cp13 v10.1.Arena.Slots, RE.rd (Kd.slice k_Handle) A15 cp16 v10.1.Kids, RE.rd k_Slot A29 cp30 v27.1.Arena.Slots, RE.rd (Kd.slice k_Handle) A32 cp33 v27.1.Kids, RE.rd k_Slot A49 cp50 v47.1.Arena.Slots, RE.rd (Kd.slice k_Handle) A52 cp53 v47.1.Kids] := H.call H2
  clear H2
  refine ⟨_, rfl, ?_⟩
  show RL _ _ _ _ _ _ _
  refine RL_pure (by exact wn0 rfl) (by rfl) (by rfl) (x_move (v := tup [.agg #[.slice A49 v47.1.Arena.Slots.length cp50, .slice A52 v47.1.Kids.length cp53], .agg #[.int .i64 v47.2.1.Slot, .int .i64 v47.2.1.Gen], .int .i64 v47.2.2]) (by rfl)) ?_
  refine RL_pure (by exact wn0 rfl) (by rfl) (by rfl) (x_extract (v := .agg #[.slice A49 v47.1.Arena.Slots.length cp50, .slice A52 v47.1.Kids.length cp53]) (by rfl) (by rfl)) ?_
  refine RL_pure (by exact wn0 rfl) (by rfl) (by rfl) (x_extract (v := .agg #[.int .i64 v47.2.1.Slot, .int .i64 v47.2.1.Gen]) (by rfl) (by rfl)) ?_
  refine RL_pure (by exact wn0 rfl) (by rfl) (by rfl) (x_extract (v := .int .i64 v47.2.2) (by rfl) (by rfl)) ?_
  refine RL_cons (O_alloc (by exact wn0 rfl) (by rfl) ze79 (by rfl) H (fun w56 b55 (H : Sep ok w w56 [.blk b1 79 [.slice none 0 0, .slice none 0 0], .blk b3 82 [.int .i64 0, .int .i64 0, .int .i64 0, .int .i64 0, .int .i64 0, .int .i64 0], .blk b5 79 [.slice A29 v27.1.Arena.Slots.length cp30, .slice A32 v27.1.Kids.length cp33], .blk b7 82 [.int .i64 v10.2.1.Slot, .int .i64 v10.2.1.Gen, .int .i64 v27.2.1.Slot, .int .i64 v27.2.1.Gen, .int .i64 0, .int .i64 0], .blk b18 79 [.slice A12 v10.1.Arena.Slots.length cp13, .slice A15 v10.1.Kids.length cp16], .blk b20 81 [.int .i64 v10.2.1.Slot, .int .i64 v10.2.1.Gen], .blk b35 79 [.slice A29 v27.1.Arena.Slots.length cp30, .slice A32 v27.1.Kids.length cp33], .blk b37 81 [.int .i64 v27.2.1.Slot, .int .i64 v27.2.1.Gen], .blk b55 79 [.slice none 0 0, .slice none 0 0]] [RE.rd k_Slot A12 cp13 v10.1.Arena.Slots, RE.rd (Kd.slice k_Handle) A15 cp16 v10.1.Kids, RE.rd k_Slot A29 cp30 v27.1.Arena.Slots, RE.rd (Kd.slice k_Handle) A32 cp33 v27.1.Kids, RE.rd k_Slot A49 cp50 v47.1.Arena.Slots, RE.rd (Kd.slice k_Handle) A52 cp53 v47.1.Kids]) => ?_))
  refine RL_cons (O_alloc (by exact wn0 rfl) (by rfl) ze81 (by rfl) H (fun w58 b57 (H : Sep ok w w58 [.blk b1 79 [.slice none 0 0, .slice none 0 0], .blk b3 82 [.int .i64 0, .int .i64 0, .int .i64 0, .int .i64 0, .int .i64 0, .int .i64 0], .blk b5 79 [.slice A29 v27.1.Arena.Slots.length cp30, .slice A32 v27.1.Kids.length cp33], .blk b7 82 [.int .i64 v10.2.1.Slot, .int .i64 v10.2.1.Gen, .int .i64 v27.2.1.Slot, .int .i64 v27.2.1.Gen, .int .i64 0, .int .i64 0], .blk b18 79 [.slice A12 v10.1.Arena.Slots.length cp13, .slice A15 v10.1.Kids.length cp16], .blk b20 81 [.int .i64 v10.2.1.Slot, .int .i64 v10.2.1.Gen], .blk b35 79 [.slice A29 v27.1.Arena.Slots.length cp30, .slice A32 v27.1.Kids.length cp33], .blk b37 81 [.int .i64 v27.2.1.Slot, .int .i64 v27.2.1.Gen], .blk b55 79 [.slice none 0 0, .slice none 0 0], .blk b57 81 [.int .i64 0, .int .i64 0]] [RE.rd k_Slot A12 cp13 v10.1.Arena.Slots, RE.rd (Kd.slice k_Handle) A15 cp16 v10.1.Kids, RE.rd k_Slot A29 cp30 v27.1.Arena.Slots, RE.rd (Kd.slice k_Handle) A32 cp33 v27.1.Kids, RE.rd k_Slot A49 cp50 v47.1.Arena.Slots, RE.rd (Kd.slice k_Handle) A52 cp53 v47.1.Kids]) => ?_))
  refine RL_cons (O_store (i := 8) (off := 0) (by exact wn0 rfl) (by rfl) (by rfl) H (by rfl) (vs := [.slice A49 v47.1.Arena.Slots.length cp50, .slice A52 v47.1.Kids.length cp53]) (by rfl) sz79 (by rfl) (by rfl) (by rfl) (fun w59 (H : Sep ok w w59 [.blk b1 79 [.slice none 0 0, .slice none 0 0], .blk b3 82 [.int .i64 0, .int .i64 0, .int .i64 0, .int .i64 0, .int .i64 0, .int .i64 0], .blk b5 79 [.slice A29 v27.1.Arena.Slots.length cp30, .slice A32 v27.1.Kids.length cp33], .blk b7 82 [.int .i64 v10.2.1.Slot, .int .i64 v10.2.1.Gen, .int .i64 v27.2.1.Slot, .int .i64 v27.2.1.Gen, .int .i64 0, .int .i64 0], .blk b18 79 [.slice A12 v10.1.Arena.Slots.length cp13, .slice A15 v10.1.Kids.length cp16], .blk b20 81 [.int .i64 v10.2.1.Slot, .int .i64 v10.2.1.Gen], .blk b35 79 [.slice A29 v27.1.Arena.Slots.length cp30, .slice A32 v27.1.Kids.length cp33], .blk b37 81 [.int .i64 v27.2.1.Slot, .int .i64 v27.2.1.Gen], .blk b55 79 [.slice A49 v47.1.Arena.Slots.length cp50, .slice A52 v47.1.Kids.length cp53], .blk b57 81 [.int .i64 0, .int .i64 0]] [RE.rd k_Slot A12 cp13 v10.1.Arena.Slots, RE.rd (Kd.slice k_Handle) A15 cp16 v10.1.Kids, RE.rd k_Slot A29 cp30 v27.1.Arena.Slots, RE.rd (Kd.slice k_Handle) A32 cp33 v27.1.Kids, RE.rd k_Slot A49 cp50 v47.1.Arena.Slots, RE.rd (Kd.slice k_Handle) A52 cp53 v47.1.Kids]) => ?_))
  refine RL_cons (O_store (i := 9) (off := 0) (by exact wn0 rfl) (by rfl) (by rfl) H (by rfl) (vs := [.int .i64 v47.2.1.Slot, .int .i64 v47.2.1.Gen]) (by rfl) sz81 (by rfl) (by rfl) (by rfl) (fun w60 (H : Sep ok w w60 [.blk b1 79 [.slice none 0 0, .slice none 0 0], .blk b3 82 [.int .i64 0, .int .i64 0, .int .i64 0, .int .i64 0, .int .i64 0, .int .i64 0], .blk b5 79 [.slice A29 v27.1.Arena.Slots.length cp30, .slice A32 v27.1.Kids.length cp33], .blk b7 82 [.int .i64 v10.2.1.Slot, .int .i64 v10.2.1.Gen, .int .i64 v27.2.1.Slot, .int .i64 v27.2.1.Gen, .int .i64 0, .int .i64 0], .blk b18 79 [.slice A12 v10.1.Arena.Slots.length cp13, .slice A15 v10.1.Kids.length cp16], .blk b20 81 [.int .i64 v10.2.1.Slot, .int .i64 v10.2.1.Gen], .blk b35 79 [.slice A29 v27.1.Arena.Slots.length cp30, .slice A32 v27.1.Kids.length cp33], .blk b37 81 [.int .i64 v27.2.1.Slot, .int .i64 v27.2.1.Gen], .blk b55 79 [.slice A49 v47.1.Arena.Slots.length cp50, .slice A52 v47.1.Kids.length cp53], .blk b57 81 [.int .i64 v47.2.1.Slot, .int .i64 v47.2.1.Gen]] [RE.rd k_Slot A12 cp13 v10.1.Arena.Slots, RE.rd (Kd.slice k_Handle) A15 cp16 v10.1.Kids, RE.rd k_Slot A29 cp30 v27.1.Arena.Slots, RE.rd (Kd.slice k_Handle) A32 cp33 v27.1.Kids, RE.rd k_Slot A49 cp50 v47.1.Arena.Slots, RE.rd (Kd.slice k_Handle) A52 cp53 v47.1.Kids]) => ?_))
  refine RL_pure (by exact wn0 rfl) (by rfl) (by rfl) (x_assign (v := .int .i64 v47.2.2) (by rfl)) ?_
  refine RL_nil ?_
  refine W_seq ?_
  refine W_region ?_
  refine RL_pure (by exact wn0 rfl) (by rfl) (by rfl) (x_move (v := .bool b41) (by rfl)) ?_
  refine RL_pure (by exact wn0 rfl) (by rfl) (by rfl) (x_move (v := .bool b41) (by rfl)) ?_
  obtain ⟨b61, hmS, hm⟩ := bind_some hm
  refine RL_cut 3 (fun r' w' => Agr [(30, .bool b61), (0, .pointer (some ⟨b1, 0, none⟩)), (1, .pointer (some ⟨b3, 0, none⟩)), (3, .pointer (some ⟨b5, 0, none⟩)), (4, .pointer (some ⟨b7, 0, none⟩)), (6, .int .i64 2), (7, .pointer (some ⟨b55, 0, none⟩)), (8, .pointer (some ⟨b57, 0, none⟩))] r' ∧ Sep ok w w' [.blk b1 79 [.slice none 0 0, .slice none 0 0], .blk b3 82 [.int .i64 0, .int .i64 0, .int .i64 0, .int .i64 0, .int .i64 0, .int .i64 0], .blk b5 79 [.slice A29 v27.1.Arena.Slots.length cp30, .slice A32 v27.1.Kids.length cp33], .blk b7 82 [.int .i64 v10.2.1.Slot, .int .i64 v10.2.1.Gen, .int .i64 v27.2.1.Slot, .int .i64 v27.2.1.Gen, .int .i64 0, .int .i64 0], .blk b18 79 [.slice A12 v10.1.Arena.Slots.length cp13, .slice A15 v10.1.Kids.length cp16], .blk b20 81 [.int .i64 v10.2.1.Slot, .int .i64 v10.2.1.Gen], .blk b35 79 [.slice A29 v27.1.Arena.Slots.length cp30, .slice A32 v27.1.Kids.length cp33], .blk b37 81 [.int .i64 v27.2.1.Slot, .int .i64 v27.2.1.Gen], .blk b55 79 [.slice A49 v47.1.Arena.Slots.length cp50, .slice A52 v47.1.Kids.length cp53], .blk b57 81 [.int .i64 v47.2.1.Slot, .int .i64 v47.2.1.Gen]] [RE.rd k_Slot A12 cp13 v10.1.Arena.Slots, RE.rd (Kd.slice k_Handle) A15 cp16 v10.1.Kids, RE.rd k_Slot A29 cp30 v27.1.Arena.Slots, RE.rd (Kd.slice k_Handle) A32 cp33 v27.1.Kids, RE.rd k_Slot A49 cp50 v47.1.Arena.Slots, RE.rd (Kd.slice k_Handle) A52 cp53 v47.1.Kids]) ?_ ?_
  ·cases hbS : b41
   ·have hm := cond_f hbS hmS
    refine RL_cons (OpR_off (by exact wn2 rfl rfl rfl rfl) (by rfl) (by rfl) ?_)
    refine RL_cons (OpR_off (by exact wn2 rfl rfl rfl rfl) (by rfl) (by rfl) ?_)
    refine RL_pure (by exact wn0 rfl) (by rfl) (by rfl) (x_pick_f (v := .bool false) (by rfl) (by rfl)) ?_
    refine RL_nil ?_
    exact ⟨⟨congrArg Value.bool (Option.some.inj hm), rfl, rfl, rfl, rfl, rfl, rfl, rfl, trivial⟩, H⟩
   ·have hm := cond_t hbS hmS
    refine RL_pure (by exact wn1 rfl rfl rfl rfl) (by rfl) (by rfl) (x_move (v := .int .i64 v47.2.2) (by rfl)) ?_
    refine RL_pure (by exact wn1 rfl rfl rfl rfl) (by rfl) (by rfl) (x_eql (by rfl) (by rfl)) ?_
    refine RL_pure (by exact wn0 rfl) (by rfl) (by rfl) (x_pick_t (v := .bool (v47.2.2 == 0)) (by rfl) (by rfl)) ?_
    refine RL_nil ?_
    exact ⟨⟨congrArg Value.bool (Option.some.inj hm), rfl, rfl, rfl, rfl, rfl, rfl, rfl, trivial⟩, H⟩
  ·rintro r' w' ⟨hA, H⟩
   obtain ⟨r62, rfl⟩ := regen _ hA; clear hA
   obtain ⟨w63, rfl⟩ : ∃ W : World, W = w' := ⟨_, rfl⟩
   show RL _ _ _ _ _ _ _
   refine RL_pure (by exact wn0 rfl) (by rfl) (by rfl) (x_assign (v := .bool b61) (by rfl)) ?_
   refine RL_nil ?_
   refine W_seq ?_
   refine W_region ?_
   refine RL_pure (by exact wn0 rfl) (by rfl) (by rfl) (x_loadA (j := 0) (vs := [.slice A49 v47.1.Arena.Slots.length cp50, .slice A52 v47.1.Kids.length cp53]) ag79 (by rfl) (H.cells (i := 8) (by rfl)) (by rfl) (by rfl)) ?_
   refine RL_cons (O_store (i := 2) (off := 0) (by exact wn0 rfl) (by rfl) (by rfl) H (by rfl) (vs := [.slice A49 v47.1.Arena.Slots.length cp50, .slice A52 v47.1.Kids.length cp53]) (by rfl) sz79 (by rfl) (by rfl) (by rfl) (fun w64 (H : Sep ok w w64 [.blk b1 79 [.slice none 0 0, .slice none 0 0], .blk b3 82 [.int .i64 0, .int .i64 0, .int .i64 0, .int .i64 0, .int .i64 0, .int .i64 0], .blk b5 79 [.slice A49 v47.1.Arena.Slots.length cp50, .slice A52 v47.1.Kids.length cp53], .blk b7 82 [.int .i64 v10.2.1.Slot, .int .i64 v10.2.1.Gen, .int .i64 v27.2.1.Slot, .int .i64 v27.2.1.Gen, .int .i64 0, .int .i64 0], .blk b18 79 [.slice A12 v10.1.Arena.Slots.length cp13, .slice A15 v10.1.Kids.length cp16], .blk b20 81 [.int .i64 v10.2.1.Slot, .int .i64 v10.2.1.Gen], .blk b35 79 [.slice A29 v27.1.Arena.Slots.length cp30, .slice A32 v27.1.Kids.length cp33], .blk b37 81 [.int .i64 v27.2.1.Slot, .int .i64 v27.2.1.Gen], .blk b55 79 [.slice A49 v47.1.Arena.Slots.length cp50, .slice A52 v47.1.Kids.length cp53], .blk b57 81 [.int .i64 v47.2.1.Slot, .int .i64 v47.2.1.Gen]] [RE.rd k_Slot A12 cp13 v10.1.Arena.Slots, RE.rd (Kd.slice k_Handle) A15 cp16 v10.1.Kids, RE.rd k_Slot A29 cp30 v27.1.Arena.Slots, RE.rd (Kd.slice k_Handle) A32 cp33 v27.1.Kids, RE.rd k_Slot A49 cp50 v47.1.Arena.Slots, RE.rd (Kd.slice k_Handle) A52 cp53 v47.1.Kids]) => ?_))
   refine RL_nil ?_
   refine W_region ?_
   refine RL_pure (by exact wn0 rfl) (by rfl) (by rfl) (x_move (v := .int .i64 2) (by rfl)) ?_
   refine RL_pure (by exact wn0 rfl) (by rfl) (by rfl) (x_loadA (j := 0) (vs := [.int .i64 v47.2.1.Slot, .int .i64 v47.2.1.Gen]) ag81 (by rfl) (H.cells (i := 9) (by rfl)) (by rfl) (by rfl)) ?_
   refine RL_pure (by exact wn0 rfl) (by rfl) (by rfl) (x_indexArr ar82 sz81 (by rfl) (by rfl) (by decide) (by decide)) ?_
   refine RL_cons (O_store (i := 3) (off := 4) (by exact wn0 rfl) (by rfl) (by rfl) H (by rfl) (vs := [.int .i64 v47.2.1.Slot, .int .i64 v47.2.1.Gen]) (by rfl) sz81 (by rfl) (by rfl) (by rfl) (fun w65 (H : Sep ok w w65 [.blk b1 79 [.slice none 0 0, .slice none 0 0], .blk b3 82 [.int .i64 0, .int .i64 0, .int .i64 0, .int .i64 0, .int .i64 0, .int .i64 0], .blk b5 79 [.slice A49 v47.1.Arena.Slots.length cp50, .slice A52 v47.1.Kids.length cp53], .blk b7 82 [.int .i64 v10.2.1.Slot, .int .i64 v10.2.1.Gen, .int .i64 v27.2.1.Slot, .int .i64 v27.2.1.Gen, .int .i64 v47.2.1.Slot, .int .i64 v47.2.1.Gen], .blk b18 79 [.slice A12 v10.1.Arena.Slots.length cp13, .slice A15 v10.1.Kids.length cp16], .blk b20 81 [.int .i64 v10.2.1.Slot, .int .i64 v10.2.1.Gen], .blk b35 79 [.slice A29 v27.1.Arena.Slots.length cp30, .slice A32 v27.1.Kids.length cp33], .blk b37 81 [.int .i64 v27.2.1.Slot, .int .i64 v27.2.1.Gen], .blk b55 79 [.slice A49 v47.1.Arena.Slots.length cp50, .slice A52 v47.1.Kids.length cp53], .blk b57 81 [.int .i64 v47.2.1.Slot, .int .i64 v47.2.1.Gen]] [RE.rd k_Slot A12 cp13 v10.1.Arena.Slots, RE.rd (Kd.slice k_Handle) A15 cp16 v10.1.Kids, RE.rd k_Slot A29 cp30 v27.1.Arena.Slots, RE.rd (Kd.slice k_Handle) A32 cp33 v27.1.Kids, RE.rd k_Slot A49 cp50 v47.1.Arena.Slots, RE.rd (Kd.slice k_Handle) A52 cp53 v47.1.Kids]) => ?_))
   refine RL_nil ?_
   refine W_region ?_
   refine RL_pure (by exact wn0 rfl) (by rfl) (by rfl) (x_move (v := .int .i64 2) (by rfl)) ?_
   refine RL_pure (by exact wn0 rfl) (by rfl) (by rfl) (x_add (c := 3) (by rfl) (by rfl) (by decide)) ?_
   refine RL_pure (by exact wn0 rfl) (by rfl) (by rfl) (x_assign (v := .int .i64 3) (by rfl)) ?_
   refine RL_nil ?_
   refine WU_succ ?_
   refine W_seq ?_
   refine W_seq ?_
   refine W_region ?_
   refine RL_pure (by exact wn0 rfl) (by rfl) (by rfl) (x_move (v := .int .i64 3) (by rfl)) ?_
   refine RL_pure (by exact wn0 rfl) (by rfl) (by rfl) (x_lss (by rfl) (by rfl)) ?_
   refine RL_nil ?_
   refine W_cond (t := false) (by first | rfl | decide) (fun hb => by cases hb) (fun _ => ?_)
   refine W_exit ?_
   refine W_seq ?_
   refine W_region ?_
   refine RL_pure (by exact wn0 rfl) (by rfl) (by rfl) (x_loadA (j := 0) (vs := [.slice A49 v47.1.Arena.Slots.length cp50, .slice A52 v47.1.Kids.length cp53]) ag79 (by rfl) (H.cells (i := 2) (by rfl)) (by rfl) (by rfl)) ?_
   refine RL_pure (by exact wn0 rfl) (by rfl) (by rfl) (x_indexArr ar82 sz81 (by rfl) (by rfl) (by decide) (by decide)) ?_
   refine RL_pure (by exact wn0 rfl) (by rfl) (by rfl) (x_loadA (j := 0) (vs := [.int .i64 v10.2.1.Slot, .int .i64 v10.2.1.Gen]) ag81 (by rfl) (H.cells (i := 3) (by rfl)) (by rfl) (by rfl)) ?_
   refine RL_pure (by exact wn0 rfl) (by rfl) (by rfl) (x_indexArr ar82 sz81 (by rfl) (by rfl) (by decide) (by decide)) ?_
   refine RL_pure (by exact wn0 rfl) (by rfl) (by rfl) (x_loadA (j := 2) (vs := [.int .i64 v27.2.1.Slot, .int .i64 v27.2.1.Gen]) ag81 (by rfl) (H.cells (i := 3) (by rfl)) (by rfl) (by rfl)) ?_
   obtain ⟨v67, hv66, hm⟩ := bind_some hm
   refine RL_cons (O_call (by exact wn0 rfl) (by rfl) (by rfl) (x_callL (by rfl) (args := [.agg #[.slice A49 v47.1.Arena.Slots.length cp50, .slice A52 v47.1.Kids.length cp53], .agg #[.int .i64 v10.2.1.Slot, .int .i64 v10.2.1.Gen], .agg #[.int .i64 v27.2.1.Slot, .int .i64 v27.2.1.Gen], .int .i64 0]) (by rfl) (cf38 _ _)) (c38 (okS ok w [.blk b1 79 [.slice none 0 0, .slice none 0 0], .blk b3 82 [.int .i64 0, .int .i64 0, .int .i64 0, .int .i64 0, .int .i64 0, .int .i64 0], .blk b5 79 [.slice A49 v47.1.Arena.Slots.length cp50, .slice A52 v47.1.Kids.length cp53], .blk b7 82 [.int .i64 v10.2.1.Slot, .int .i64 v10.2.1.Gen, .int .i64 v27.2.1.Slot, .int .i64 v27.2.1.Gen, .int .i64 v47.2.1.Slot, .int .i64 v47.2.1.Gen], .blk b18 79 [.slice A12 v10.1.Arena.Slots.length cp13, .slice A15 v10.1.Kids.length cp16], .blk b20 81 [.int .i64 v10.2.1.Slot, .int .i64 v10.2.1.Gen], .blk b35 79 [.slice A29 v27.1.Arena.Slots.length cp30, .slice A32 v27.1.Kids.length cp33], .blk b37 81 [.int .i64 v27.2.1.Slot, .int .i64 v27.2.1.Gen], .blk b55 79 [.slice A49 v47.1.Arena.Slots.length cp50, .slice A52 v47.1.Kids.length cp53], .blk b57 81 [.int .i64 v47.2.1.Slot, .int .i64 v47.2.1.Gen]]) K w65 v47.1 A49 cp50 A52 cp53 v10.2.1 v27.2.1 0 (H.rd (i := 4) (by rfl)) (H.rd (i := 5) (by rfl)) v67 hv66) ?_)
   rintro e w68 ⟨A69, cp70, A72, cp73, rfl, H2⟩
   have H : Sep ok w w68 [.blk b1 79 [.slice none 0 0, .slice none 0 0], .blk b3 82 [.int .i64 0, .int .i64 0, .int .i64 0, .int .i64 0, .int .i64 0, .int .i64 0], .blk b5 79 [.slice A49 v47.1.Arena.Slots.length cp50, .slice A52 v47.1.Kids.length cp53], .blk b7 82 [.int .i64 v10.2.1.Slot, .int .i64 v10.2.1.Gen, .int .i64 v27.2.1.Slot, .int .i64 v27.2.1.Gen, .int .i64 v47.2.1.Slot, .int .i64 v47.2.1.Gen], .blk b18 79 [.slice A12 v10.1.Arena.Slots.length cp13, .slice A15 v10.1.Kids.length cp16], .blk b20 81 [.int .i64 v10.2.1.Slot, .int .i64 v10.2.1.Gen], .blk b35 79 [.slice A29 v27.1.Arena.Slots.length cp30, .slice A32 v27.1.Kids.length cp33], .blk b37 81 [.int .i64 v27.2.1.Slot, .int .i64 v27.2.1.Gen], .blk b55 79 [.slice A49 v47.1.Arena.Slots.length cp50, .slice A52 v47.1.Kids.length cp53], .blk b57 81 [.int .i64 v47.2.1.Slot, .int .i64 v47.2.1.Gen]] [RE.rd k_Slot A12 cp13 v10.1.Arena.Slots, RE.rd (Kd.slice k_Handle) A15 cp16 v10.1.Kids, RE.rd k_Slot A29 cp30 v27.1.Arena.Slots, RE.rd (Kd.slice k_Handle) A32 cp33 v27.1.Kids, RE.rd k_Slot A49 cp50 v47.1.Arena.Slots, RE.rd (Kd.slice k_Handle) A52 cp53 v47.1.Kids, RE.rd k_Slot A69 cp70 v67.1.Arena.Slots, RE.rd (Kd.slice k_Handle) A72 cp73 v67.1.Kids] := H.call H2
   clear H2
   refine ⟨_, rfl, ?_⟩
   show RL _ _ _ _ _ _ _
   refine RL_pure (by exact wn0 rfl) (by rfl) (by rfl) (x_move (v := tup [.agg #[.slice A69 v67.1.Arena.Slots.length cp70, .slice A72 v67.1.Kids.length cp73], .int .i64 v67.2]) (by rfl)) ?_
   refine RL_pure (by exact wn0 rfl) (by rfl) (by rfl) (x_extract (v := .agg #[.slice A69 v67.1.Arena.Slots.length cp70, .slice A72 v67.1.Kids.length cp73]) (by rfl) (by rfl)) ?_
   refine RL_pure (by exact wn0 rfl) (by rfl) (by rfl) (x_extract (v := .int .i64 v67.2) (by rfl) (by rfl)) ?_
   refine RL_cons (O_alloc (by exact wn0 rfl) (by rfl) ze79 (by rfl) H (fun w76 b75 (H : Sep ok w w76 [.blk b1 79 [.slice none 0 0, .slice none 0 0], .blk b3 82 [.int .i64 0, .int .i64 0, .int .i64 0, .int .i64 0, .int .i64 0, .int .i64 0], .blk b5 79 [.slice A49 v47.1.Arena.Slots.length cp50, .slice A52 v47.1.Kids.length cp53], .blk b7 82 [.int .i64 v10.2.1.Slot, .int .i64 v10.2.1.Gen, .int .i64 v27.2.1.Slot, .int .i64 v27.2.1.Gen, .int .i64 v47.2.1.Slot, .int .i64 v47.2.1.Gen], .blk b18 79 [.slice A12 v10.1.Arena.Slots.length cp13, .slice A15 v10.1.Kids.length cp16], .blk b20 81 [.int .i64 v10.2.1.Slot, .int .i64 v10.2.1.Gen], .blk b35 79 [.slice A29 v27.1.Arena.Slots.length cp30, .slice A32 v27.1.Kids.length cp33], .blk b37 81 [.int .i64 v27.2.1.Slot, .int .i64 v27.2.1.Gen], .blk b55 79 [.slice A49 v47.1.Arena.Slots.length cp50, .slice A52 v47.1.Kids.length cp53], .blk b57 81 [.int .i64 v47.2.1.Slot, .int .i64 v47.2.1.Gen], .blk b75 79 [.slice none 0 0, .slice none 0 0]] [RE.rd k_Slot A12 cp13 v10.1.Arena.Slots, RE.rd (Kd.slice k_Handle) A15 cp16 v10.1.Kids, RE.rd k_Slot A29 cp30 v27.1.Arena.Slots, RE.rd (Kd.slice k_Handle) A32 cp33 v27.1.Kids, RE.rd k_Slot A49 cp50 v47.1.Arena.Slots, RE.rd (Kd.slice k_Handle) A52 cp53 v47.1.Kids, RE.rd k_Slot A69 cp70 v67.1.Arena.Slots, RE.rd (Kd.slice k_Handle) A72 cp73 v67.1.Kids]) => ?_))
   refine RL_cons (O_store (i := 10) (off := 0) (by exact wn0 rfl) (by rfl) (by rfl) H (by rfl) (vs := [.slice A69 v67.1.Arena.Slots.length cp70, .slice A72 v67.1.Kids.length cp73]) (by rfl) sz79 (by rfl) (by rfl) (by rfl) (fun w77 (H : Sep ok w w77 [.blk b1 79 [.slice none 0 0, .slice none 0 0], .blk b3 82 [.int .i64 0, .int .i64 0, .int .i64 0, .int .i64 0, .int .i64 0, .int .i64 0], .blk b5 79 [.slice A49 v47.1.Arena.Slots.length cp50, .slice A52 v47.1.Kids.length cp53], .blk b7 82 [.int .i64 v10.2.1.Slot, .int .i64 v10.2.1.Gen, .int .i64 v27.2.1.Slot, .int .i64 v27.2.1.Gen, .int .i64 v47.2.1.Slot, .int .i64 v47.2.1.Gen], .blk b18 79 [.slice A12 v10.1.Arena.Slots.length cp13, .slice A15 v10.1.Kids.length cp16], .blk b20 81 [.int .i64 v10.2.1.Slot, .int .i64 v10.2.1.Gen], .blk b35 79 [.slice A29 v27.1.Arena.Slots.length cp30, .slice A32 v27.1.Kids.length cp33], .blk b37 81 [.int .i64 v27.2.1.Slot, .int .i64 v27.2.1.Gen], .blk b55 79 [.slice A49 v47.1.Arena.Slots.length cp50, .slice A52 v47.1.Kids.length cp53], .blk b57 81 [.int .i64 v47.2.1.Slot, .int .i64 v47.2.1.Gen], .blk b75 79 [.slice A69 v67.1.Arena.Slots.length cp70, .slice A72 v67.1.Kids.length cp73]] [RE.rd k_Slot A12 cp13 v10.1.Arena.Slots, RE.rd (Kd.slice k_Handle) A15 cp16 v10.1.Kids, RE.rd k_Slot A29 cp30 v27.1.Arena.Slots, RE.rd (Kd.slice k_Handle) A32 cp33 v27.1.Kids, RE.rd k_Slot A49 cp50 v47.1.Arena.Slots, RE.rd (Kd.slice k_Handle) A52 cp53 v47.1.Kids, RE.rd k_Slot A69 cp70 v67.1.Arena.Slots, RE.rd (Kd.slice k_Handle) A72 cp73 v67.1.Kids]) => ?_))
   refine RL_pure (by exact wn0 rfl) (by rfl) (by rfl) (x_assign (v := .int .i64 v67.2) (by rfl)) ?_
   refine RL_nil ?_
   refine W_seq ?_
   refine W_region ?_
   refine RL_pure (by exact wn0 rfl) (by rfl) (by rfl) (x_loadA (j := 0) (vs := [.slice A69 v67.1.Arena.Slots.length cp70, .slice A72 v67.1.Kids.length cp73]) ag79 (by rfl) (H.cells (i := 10) (by rfl)) (by rfl) (by rfl)) ?_
   refine RL_pure (by exact wn0 rfl) (by rfl) (by rfl) (x_indexArr ar82 sz81 (by rfl) (by rfl) (by decide) (by decide)) ?_
   refine RL_pure (by exact wn0 rfl) (by rfl) (by rfl) (x_loadA (j := 0) (vs := [.int .i64 v10.2.1.Slot, .int .i64 v10.2.1.Gen]) ag81 (by rfl) (H.cells (i := 3) (by rfl)) (by rfl) (by rfl)) ?_
   refine RL_pure (by exact wn0 rfl) (by rfl) (by rfl) (x_indexArr ar82 sz81 (by rfl) (by rfl) (by decide) (by decide)) ?_
   refine RL_pure (by exact wn0 rfl) (by rfl) (by rfl) (x_loadA (j := 2) (vs := [.int .i64 v27.2.1.Slot, .int .i64 v27.2.1.Gen]) ag81 (by rfl) (H.cells (i := 3) (by rfl)) (by rfl) (by rfl)) ?_
   obtain ⟨v79, hv78, hm⟩ := bind_some hm
   refine RL_cons (O_call (by exact wn0 rfl) (by rfl) (by rfl) (x_callL (by rfl) (args := [.agg #[.slice A69 v67.1.Arena.Slots.length cp70, .slice A72 v67.1.Kids.length cp73], .agg #[.int .i64 v10.2.1.Slot, .int .i64 v10.2.1.Gen], .agg #[.int .i64 v27.2.1.Slot, .int .i64 v27.2.1.Gen], .int .i64 1]) (by rfl) (cf38 _ _)) (c38 (okS ok w [.blk b1 79 [.slice none 0 0, .slice none 0 0], .blk b3 82 [.int .i64 0, .int .i64 0, .int .i64 0, .int .i64 0, .int .i64 0, .int .i64 0], .blk b5 79 [.slice A49 v47.1.Arena.Slots.length cp50, .slice A52 v47.1.Kids.length cp53], .blk b7 82 [.int .i64 v10.2.1.Slot, .int .i64 v10.2.1.Gen, .int .i64 v27.2.1.Slot, .int .i64 v27.2.1.Gen, .int .i64 v47.2.1.Slot, .int .i64 v47.2.1.Gen], .blk b18 79 [.slice A12 v10.1.Arena.Slots.length cp13, .slice A15 v10.1.Kids.length cp16], .blk b20 81 [.int .i64 v10.2.1.Slot, .int .i64 v10.2.1.Gen], .blk b35 79 [.slice A29 v27.1.Arena.Slots.length cp30, .slice A32 v27.1.Kids.length cp33], .blk b37 81 [.int .i64 v27.2.1.Slot, .int .i64 v27.2.1.Gen], .blk b55 79 [.slice A49 v47.1.Arena.Slots.length cp50, .slice A52 v47.1.Kids.length cp53], .blk b57 81 [.int .i64 v47.2.1.Slot, .int .i64 v47.2.1.Gen], .blk b75 79 [.slice A69 v67.1.Arena.Slots.length cp70, .slice A72 v67.1.Kids.length cp73]]) K w77 v67.1 A69 cp70 A72 cp73 v10.2.1 v27.2.1 1 (H.rd (i := 6) (by rfl)) (H.rd (i := 7) (by rfl)) v79 hv78) ?_)
   rintro e w80 ⟨A81, cp82, A84, cp85, rfl, H2⟩
   have H : Sep ok w w80 [.blk b1 79 [.slice none 0 0, .slice none 0 0], .blk b3 82 [.int .i64 0, .int .i64 0, .int .i64 0, .int .i64 0, .int .i64 0, .int .i64 0], .blk b5 79 [.slice A49 v47.1.Arena.Slots.length cp50, .slice A52 v47.1.Kids.length cp53], .blk b7 82 [.int .i64 v10.2.1.Slot, .int .i64 v10.2.1.Gen, .int .i64 v27.2.1.Slot, .int .i64 v27.2.1.Gen, .int .i64 v47.2.1.Slot, .int .i64 v47.2.1.Gen], .blk b18 79 [.slice A12 v10.1.Arena.Slots.length cp13, .slice A15 v10.1.Kids.length cp16], .blk b20 81 [.int .i64 v10.2.1.Slot, .int .i64 v10.2.1.Gen], .blk b35 79 [.slice A29 v27.1.Arena.Slots.length cp30, .slice A32 v27.1.Kids.length cp33], .blk b37 81 [.int .i64 v27.2.1.Slot, .int .i64 v27.2.1.Gen], .blk b55 79 [.slice A49 v47.1.Arena.Slots.length cp50, .slice A52 v47.1.Kids.length cp53], .blk b57 81 [.int .i64 v47.2.1.Slot, .int .i64 v47.2.1.Gen], .blk b75 79 [.slice A69 v67.1.Arena.Slots.length cp70, .slice A72 v67.1.Kids.length cp73]] [RE.rd k_Slot A12 cp13 v10.1.Arena.Slots, RE.rd (Kd.slice k_Handle) A15 cp16 v10.1.Kids, RE.rd k_Slot A29 cp30 v27.1.Arena.Slots, RE.rd (Kd.slice k_Handle) A32 cp33 v27.1.Kids, RE.rd k_Slot A49 cp50 v47.1.Arena.Slots, RE.rd (Kd.slice k_Handle) A52 cp53 v47.1.Kids, RE.rd k_Slot A69 cp70 v67.1.Arena.Slots, RE.rd (Kd.slice k_Handle) A72 cp73 v67.1.Kids, RE.rd k_Slot A81 cp82 v79.1.Arena.Slots, RE.rd (Kd.slice k_Handle) A84 cp85 v79.1.Kids] := H.call H2
   clear H2
   refine ⟨_, rfl, ?_⟩
   show RL _ _ _ _ _ _ _
   refine RL_pure (by exact wn0 rfl) (by rfl) (by rfl) (x_move (v := tup [.agg #[.slice A81 v79.1.Arena.Slots.length cp82, .slice A84 v79.1.Kids.length cp85], .int .i64 v79.2]) (by rfl)) ?_
   refine RL_pure (by exact wn0 rfl) (by rfl) (by rfl) (x_extract (v := .agg #[.slice A81 v79.1.Arena.Slots.length cp82, .slice A84 v79.1.Kids.length cp85]) (by rfl) (by rfl)) ?_
   refine RL_pure (by exact wn0 rfl) (by rfl) (by rfl) (x_extract (v := .int .i64 v79.2) (by rfl) (by rfl)) ?_
   refine RL_cons (O_alloc (by exact wn0 rfl) (by rfl) ze79 (by rfl) H (fun w88 b87 (H : Sep ok w w88 [.blk b1 79 [.slice none 0 0, .slice none 0 0], .blk b3 82 [.int .i64 0, .int .i64 0, .int .i64 0, .int .i64 0, .int .i64 0, .int .i64 0], .blk b5 79 [.slice A49 v47.1.Arena.Slots.length cp50, .slice A52 v47.1.Kids.length cp53], .blk b7 82 [.int .i64 v10.2.1.Slot, .int .i64 v10.2.1.Gen, .int .i64 v27.2.1.Slot, .int .i64 v27.2.1.Gen, .int .i64 v47.2.1.Slot, .int .i64 v47.2.1.Gen], .blk b18 79 [.slice A12 v10.1.Arena.Slots.length cp13, .slice A15 v10.1.Kids.length cp16], .blk b20 81 [.int .i64 v10.2.1.Slot, .int .i64 v10.2.1.Gen], .blk b35 79 [.slice A29 v27.1.Arena.Slots.length cp30, .slice A32 v27.1.Kids.length cp33], .blk b37 81 [.int .i64 v27.2.1.Slot, .int .i64 v27.2.1.Gen], .blk b55 79 [.slice A49 v47.1.Arena.Slots.length cp50, .slice A52 v47.1.Kids.length cp53], .blk b57 81 [.int .i64 v47.2.1.Slot, .int .i64 v47.2.1.Gen], .blk b75 79 [.slice A69 v67.1.Arena.Slots.length cp70, .slice A72 v67.1.Kids.length cp73], .blk b87 79 [.slice none 0 0, .slice none 0 0]] [RE.rd k_Slot A12 cp13 v10.1.Arena.Slots, RE.rd (Kd.slice k_Handle) A15 cp16 v10.1.Kids, RE.rd k_Slot A29 cp30 v27.1.Arena.Slots, RE.rd (Kd.slice k_Handle) A32 cp33 v27.1.Kids, RE.rd k_Slot A49 cp50 v47.1.Arena.Slots, RE.rd (Kd.slice k_Handle) A52 cp53 v47.1.Kids, RE.rd k_Slot A69 cp70 v67.1.Arena.Slots, RE.rd (Kd.slice k_Handle) A72 cp73 v67.1.Kids, RE.rd k_Slot A81 cp82 v79.1.Arena.Slots, RE.rd (Kd.slice k_Handle) A84 cp85 v79.1.Kids]) => ?_))
   refine RL_cons (O_store (i := 11) (off := 0) (by exact wn0 rfl) (by rfl) (by rfl) H (by rfl) (vs := [.slice A81 v79.1.Arena.Slots.length cp82, .slice A84 v79.1.Kids.length cp85]) (by rfl) sz79 (by rfl) (by rfl) (by rfl) (fun w89 (H : Sep ok w w89 [.blk b1 79 [.slice none 0 0, .slice none 0 0], .blk b3 82 [.int .i64 0, .int .i64 0, .int .i64 0, .int .i64 0, .int .i64 0, .int .i64 0], .blk b5 79 [.slice A49 v47.1.Arena.Slots.length cp50, .slice A52 v47.1.Kids.length cp53], .blk b7 82 [.int .i64 v10.2.1.Slot, .int .i64 v10.2.1.Gen, .int .i64 v27.2.1.Slot, .int .i64 v27.2.1.Gen, .int .i64 v47.2.1.Slot, .int .i64 v47.2.1.Gen], .blk b18 79 [.slice A12 v10.1.Arena.Slots.length cp13, .slice A15 v10.1.Kids.length cp16], .blk b20 81 [.int .i64 v10.2.1.Slot, .int .i64 v10.2.1.Gen], .blk b35 79 [.slice A29 v27.1.Arena.Slots.length cp30, .slice A32 v27.1.Kids.length cp33], .blk b37 81 [.int .i64 v27.2.1.Slot, .int .i64 v27.2.1.Gen], .blk b55 79 [.slice A49 v47.1.Arena.Slots.length cp50, .slice A52 v47.1.Kids.length cp53], .blk b57 81 [.int .i64 v47.2.1.Slot, .int .i64 v47.2.1.Gen], .blk b75 79 [.slice A69 v67.1.Arena.Slots.length cp70, .slice A72 v67.1.Kids.length cp73], .blk b87 79 [.slice A81 v79.1.Arena.Slots.length cp82, .slice A84 v79.1.Kids.length cp85]] [RE.rd k_Slot A12 cp13 v10.1.Arena.Slots, RE.rd (Kd.slice k_Handle) A15 cp16 v10.1.Kids, RE.rd k_Slot A29 cp30 v27.1.Arena.Slots, RE.rd (Kd.slice k_Handle) A32 cp33 v27.1.Kids, RE.rd k_Slot A49 cp50 v47.1.Arena.Slots, RE.rd (Kd.slice k_Handle) A52 cp53 v47.1.Kids, RE.rd k_Slot A69 cp70 v67.1.Arena.Slots, RE.rd (Kd.slice k_Handle) A72 cp73 v67.1.Kids, RE.rd k_Slot A81 cp82 v79.1.Arena.Slots, RE.rd (Kd.slice k_Handle) A84 cp85 v79.1.Kids]) => ?_))
   refine RL_pure (by exact wn0 rfl) (by rfl) (by rfl) (x_assign (v := .int .i64 v79.2) (by rfl)) ?_
   refine RL_nil ?_
   refine W_seq ?_
   refine W_region ?_
   refine RL_pure (by exact wn0 rfl) (by rfl) (by rfl) (x_loadA (j := 0) (vs := [.slice A81 v79.1.Arena.Slots.length cp82, .slice A84 v79.1.Kids.length cp85]) ag79 (by rfl) (H.cells (i := 11) (by rfl)) (by rfl) (by rfl)) ?_
   refine RL_pure (by exact wn0 rfl) (by rfl) (by rfl) (x_indexArr ar82 sz81 (by rfl) (by rfl) (by decide) (by decide)) ?_
   refine RL_pure (by exact wn0 rfl) (by rfl) (by rfl) (x_loadA (j := 2) (vs := [.int .i64 v27.2.1.Slot, .int .i64 v27.2.1.Gen]) ag81 (by rfl) (H.cells (i := 3) (by rfl)) (by rfl) (by rfl)) ?_
   refine RL_pure (by exact wn0 rfl) (by rfl) (by rfl) (x_indexArr ar82 sz81 (by rfl) (by rfl) (by decide) (by decide)) ?_
   refine RL_pure (by exact wn0 rfl) (by rfl) (by rfl) (x_loadA (j := 4) (vs := [.int .i64 v47.2.1.Slot, .int .i64 v47.2.1.Gen]) ag81 (by rfl) (H.cells (i := 3) (by rfl)) (by rfl) (by rfl)) ?_
   obtain ⟨v91, hv90, hm⟩ := bind_some hm
   refine RL_cons (O_call (by exact wn0 rfl) (by rfl) (by rfl) (x_callL (by rfl) (args := [.agg #[.slice A81 v79.1.Arena.Slots.length cp82, .slice A84 v79.1.Kids.length cp85], .agg #[.int .i64 v27.2.1.Slot, .int .i64 v27.2.1.Gen], .agg #[.int .i64 v47.2.1.Slot, .int .i64 v47.2.1.Gen], .int .i64 0]) (by rfl) (cf38 _ _)) (c38 (okS ok w [.blk b1 79 [.slice none 0 0, .slice none 0 0], .blk b3 82 [.int .i64 0, .int .i64 0, .int .i64 0, .int .i64 0, .int .i64 0, .int .i64 0], .blk b5 79 [.slice A49 v47.1.Arena.Slots.length cp50, .slice A52 v47.1.Kids.length cp53], .blk b7 82 [.int .i64 v10.2.1.Slot, .int .i64 v10.2.1.Gen, .int .i64 v27.2.1.Slot, .int .i64 v27.2.1.Gen, .int .i64 v47.2.1.Slot, .int .i64 v47.2.1.Gen], .blk b18 79 [.slice A12 v10.1.Arena.Slots.length cp13, .slice A15 v10.1.Kids.length cp16], .blk b20 81 [.int .i64 v10.2.1.Slot, .int .i64 v10.2.1.Gen], .blk b35 79 [.slice A29 v27.1.Arena.Slots.length cp30, .slice A32 v27.1.Kids.length cp33], .blk b37 81 [.int .i64 v27.2.1.Slot, .int .i64 v27.2.1.Gen], .blk b55 79 [.slice A49 v47.1.Arena.Slots.length cp50, .slice A52 v47.1.Kids.length cp53], .blk b57 81 [.int .i64 v47.2.1.Slot, .int .i64 v47.2.1.Gen], .blk b75 79 [.slice A69 v67.1.Arena.Slots.length cp70, .slice A72 v67.1.Kids.length cp73], .blk b87 79 [.slice A81 v79.1.Arena.Slots.length cp82, .slice A84 v79.1.Kids.length cp85]]) K w89 v79.1 A81 cp82 A84 cp85 v27.2.1 v47.2.1 0 (H.rd (i := 8) (by rfl)) (H.rd (i := 9) (by rfl)) v91 hv90) ?_)
   rintro e w92 ⟨A93, cp94, A96, cp97, rfl, H2⟩
   have H : Sep ok w w92 [.blk b1 79 [.slice none 0 0, .slice none 0 0], .blk b3 82 [.int .i64 0, .int .i64 0, .int .i64 0, .int .i64 0, .int .i64 0, .int .i64 0], .blk b5 79 [.slice A49 v47.1.Arena.Slots.length cp50, .slice A52 v47.1.Kids.length cp53], .blk b7 82 [.int .i64 v10.2.1.Slot, .int .i64 v10.2.1.Gen, .int .i64 v27.2.1.Slot, .int .i64 v27.2.1.Gen, .int .i64 v47.2.1.Slot, .int .i64 v47.2.1.Gen], .blk b18 79 [.slice A12 v10.1.Arena.Slots.length cp13, .slice A15 v10.1.Kids.length cp16], .blk b20 81 [.int .i64 v10.2.1.Slot, .int .i64 v10.2.1.Gen], .blk b35 79 [.slice A29 v27.1.Arena.Slots.length cp30, .slice A32 v27.1.Kids.length cp33], .blk b37 81 [.int .i64 v27.2.1.Slot, .int .i64 v27.2.1.Gen], .blk b55 79 [.slice A49 v47.1.Arena.Slots.length cp50, .slice A52 v47.1.Kids.length cp53], .blk b57 81 [.int .i64 v47.2.1.Slot, .int .i64 v47.2.1.Gen], .blk b75 79 [.slice A69 v67.1.Arena.Slots.length cp70, .slice A72 v67.1.Kids.length cp73], .blk b87 79 [.slice A81 v79.1.Arena.Slots.length cp82, .slice A84 v79.1.Kids.length cp85]] [RE.rd k_Slot A12 cp13 v10.1.Arena.Slots, RE.rd (Kd.slice k_Handle) A15 cp16 v10.1.Kids, RE.rd k_Slot A29 cp30 v27.1.Arena.Slots, RE.rd (Kd.slice k_Handle) A32 cp33 v27.1.Kids, RE.rd k_Slot A49 cp50 v47.1.Arena.Slots, RE.rd (Kd.slice k_Handle) A52 cp53 v47.1.Kids, RE.rd k_Slot A69 cp70 v67.1.Arena.Slots, RE.rd (Kd.slice k_Handle) A72 cp73 v67.1.Kids, RE.rd k_Slot A81 cp82 v79.1.Arena.Slots, RE.rd (Kd.slice k_Handle) A84 cp85 v79.1.Kids, RE.rd k_Slot A93 cp94 v91.1.Arena.Slots, RE.rd (Kd.slice k_Handle) A96 cp97 v91.1.Kids] := H.call H2
   clear H2
   refine ⟨_, rfl, ?_⟩
   show RL _ _ _ _ _ _ _
   refine RL_pure (by exact wn0 rfl) (by rfl) (by rfl) (x_move (v := tup [.agg #[.slice A93 v91.1.Arena.Slots.length cp94, .slice A96 v91.1.Kids.length cp97], .int .i64 v91.2]) (by rfl)) ?_
   refine RL_pure (by exact wn0 rfl) (by rfl) (by rfl) (x_extract (v := .agg #[.slice A93 v91.1.Arena.Slots.length cp94, .slice A96 v91.1.Kids.length cp97]) (by rfl) (by rfl)) ?_
   refine RL_pure (by exact wn0 rfl) (by rfl) (by rfl) (x_extract (v := .int .i64 v91.2) (by rfl) (by rfl)) ?_
   refine RL_cons (O_alloc (by exact wn0 rfl) (by rfl) ze79 (by rfl) H (fun w100 b99 (H : Sep ok w w100 [.blk b1 79 [.slice none 0 0, .slice none 0 0], .blk b3 82 [.int .i64 0, .int .i64 0, .int .i64 0, .int .i64 0, .int .i64 0, .int .i64 0], .blk b5 79 [.slice A49 v47.1.Arena.Slots.length cp50, .slice A52 v47.1.Kids.length cp53], .blk b7 82 [.int .i64 v10.2.1.Slot, .int .i64 v10.2.1.Gen, .int .i64 v27.2.1.Slot, .int .i64 v27.2.1.Gen, .int .i64 v47.2.1.Slot, .int .i64 v47.2.1.Gen], .blk b18 79 [.slice A12 v10.1.Arena.Slots.length cp13, .slice A15 v10.1.Kids.length cp16], .blk b20 81 [.int .i64 v10.2.1.Slot, .int .i64 v10.2.1.Gen], .blk b35 79 [.slice A29 v27.1.Arena.Slots.length cp30, .slice A32 v27.1.Kids.length cp33], .blk b37 81 [.int .i64 v27.2.1.Slot, .int .i64 v27.2.1.Gen], .blk b55 79 [.slice A49 v47.1.Arena.Slots.length cp50, .slice A52 v47.1.Kids.length cp53], .blk b57 81 [.int .i64 v47.2.1.Slot, .int .i64 v47.2.1.Gen], .blk b75 79 [.slice A69 v67.1.Arena.Slots.length cp70, .slice A72 v67.1.Kids.length cp73], .blk b87 79 [.slice A81 v79.1.Arena.Slots.length cp82, .slice A84 v79.1.Kids.length cp85], .blk b99 79 [.slice none 0 0, .slice none 0 0]] [RE.rd k_Slot A12 cp13 v10.1.Arena.Slots, RE.rd (Kd.slice k_Handle) A15 cp16 v10.1.Kids, RE.rd k_Slot A29 cp30 v27.1.Arena.Slots, RE.rd (Kd.slice k_Handle) A32 cp33 v27.1.Kids, RE.rd k_Slot A49 cp50 v47.1.Arena.Slots, RE.rd (Kd.slice k_Handle) A52 cp53 v47.1.Kids, RE.rd k_Slot A69 cp70 v67.1.Arena.Slots, RE.rd (Kd.slice k_Handle) A72 cp73 v67.1.Kids, RE.rd k_Slot A81 cp82 v79.1.Arena.Slots, RE.rd (Kd.slice k_Handle) A84 cp85 v79.1.Kids, RE.rd k_Slot A93 cp94 v91.1.Arena.Slots, RE.rd (Kd.slice k_Handle) A96 cp97 v91.1.Kids]) => ?_))
   refine RL_cons (O_store (i := 12) (off := 0) (by exact wn0 rfl) (by rfl) (by rfl) H (by rfl) (vs := [.slice A93 v91.1.Arena.Slots.length cp94, .slice A96 v91.1.Kids.length cp97]) (by rfl) sz79 (by rfl) (by rfl) (by rfl) (fun w101 (H : Sep ok w w101 [.blk b1 79 [.slice none 0 0, .slice none 0 0], .blk b3 82 [.int .i64 0, .int .i64 0, .int .i64 0, .int .i64 0, .int .i64 0, .int .i64 0], .blk b5 79 [.slice A49 v47.1.Arena.Slots.length cp50, .slice A52 v47.1.Kids.length cp53], .blk b7 82 [.int .i64 v10.2.1.Slot, .int .i64 v10.2.1.Gen, .int .i64 v27.2.1.Slot, .int .i64 v27.2.1.Gen, .int .i64 v47.2.1.Slot, .int .i64 v47.2.1.Gen], .blk b18 79 [.slice A12 v10.1.Arena.Slots.length cp13, .slice A15 v10.1.Kids.length cp16], .blk b20 81 [.int .i64 v10.2.1.Slot, .int .i64 v10.2.1.Gen], .blk b35 79 [.slice A29 v27.1.Arena.Slots.length cp30, .slice A32 v27.1.Kids.length cp33], .blk b37 81 [.int .i64 v27.2.1.Slot, .int .i64 v27.2.1.Gen], .blk b55 79 [.slice A49 v47.1.Arena.Slots.length cp50, .slice A52 v47.1.Kids.length cp53], .blk b57 81 [.int .i64 v47.2.1.Slot, .int .i64 v47.2.1.Gen], .blk b75 79 [.slice A69 v67.1.Arena.Slots.length cp70, .slice A72 v67.1.Kids.length cp73], .blk b87 79 [.slice A81 v79.1.Arena.Slots.length cp82, .slice A84 v79.1.Kids.length cp85], .blk b99 79 [.slice A93 v91.1.Arena.Slots.length cp94, .slice A96 v91.1.Kids.length cp97]] [RE.rd k_Slot A12 cp13 v10.1.Arena.Slots, RE.rd (Kd.slice k_Handle) A15 cp16 v10.1.Kids, RE.rd k_Slot A29 cp30 v27.1.Arena.Slots, RE.rd (Kd.slice k_Handle) A32 cp33 v27.1.Kids, RE.rd k_Slot A49 cp50 v47.1.Arena.Slots, RE.rd (Kd.slice k_Handle) A52 cp53 v47.1.Kids, RE.rd k_Slot A69 cp70 v67.1.Arena.Slots, RE.rd (Kd.slice k_Handle) A72 cp73 v67.1.Kids, RE.rd k_Slot A81 cp82 v79.1.Arena.Slots, RE.rd (Kd.slice k_Handle) A84 cp85 v79.1.Kids, RE.rd k_Slot A93 cp94 v91.1.Arena.Slots, RE.rd (Kd.slice k_Handle) A96 cp97 v91.1.Kids]) => ?_))
   refine RL_pure (by exact wn0 rfl) (by rfl) (by rfl) (x_assign (v := .int .i64 v91.2) (by rfl)) ?_
   refine RL_nil ?_
   refine W_seq ?_
   refine W_draw [.take 0, .take 1, .free 2, .free 3, .free 4, .free 5, .free 6, .free 7, .free 8, .free 9, .free 10, .free 11, .free 12, .free 13, .free 14, .run 15, .tail 16, .free 17] (fun wS => Sep ok w wS [.hole, .blk b3 82 [.int .i64 0, .int .i64 0, .int .i64 0, .int .i64 0, .int .i64 0, .int .i64 0], .blk b5 79 [.slice A49 v47.1.Arena.Slots.length cp50, .slice A52 v47.1.Kids.length cp53], .blk b7 82 [.int .i64 v10.2.1.Slot, .int .i64 v10.2.1.Gen, .int .i64 v27.2.1.Slot, .int .i64 v27.2.1.Gen, .int .i64 v47.2.1.Slot, .int .i64 v47.2.1.Gen], .blk b18 79 [.slice A12 v10.1.Arena.Slots.length cp13, .slice A15 v10.1.Kids.length cp16], .blk b20 81 [.int .i64 v10.2.1.Slot, .int .i64 v10.2.1.Gen], .blk b35 79 [.slice A29 v27.1.Arena.Slots.length cp30, .slice A32 v27.1.Kids.length cp33], .blk b37 81 [.int .i64 v27.2.1.Slot, .int .i64 v27.2.1.Gen], .blk b55 79 [.slice A49 v47.1.Arena.Slots.length cp50, .slice A52 v47.1.Kids.length cp53], .blk b57 81 [.int .i64 v47.2.1.Slot, .int .i64 v47.2.1.Gen], .blk b75 79 [.slice A69 v67.1.Arena.Slots.length cp70, .slice A72 v67.1.Kids.length cp73], .blk b87 79 [.slice A81 v79.1.Arena.Slots.length cp82, .slice A84 v79.1.Kids.length cp85], .blk b99 79 [.slice A93 v91.1.Arena.Slots.length cp94, .slice A96 v91.1.Kids.length cp97]] [RE.rd k_Slot A12 cp13 v10.1.Arena.Slots, RE.rd (Kd.slice k_Handle) A15 cp16 v10.1.Kids, RE.rd k_Slot A29 cp30 v27.1.Arena.Slots, RE.rd (Kd.slice k_Handle) A32 cp33 v27.1.Kids, RE.rd k_Slot A49 cp50 v47.1.Arena.Slots, RE.rd (Kd.slice k_Handle) A52 cp53 v47.1.Kids, RE.rd k_Slot A69 cp70 v67.1.Arena.Slots, RE.rd (Kd.slice k_Handle) A72 cp73 v67.1.Kids, RE.rd k_Slot A81 cp82 v79.1.Arena.Slots, RE.rd (Kd.slice k_Handle) A84 cp85 v79.1.Kids, RE.rd k_Slot A93 cp94 v91.1.Arena.Slots, RE.rd (Kd.slice k_Handle) A96 cp97 v91.1.Kids]) [16] [2, 3, 4, 5, 6, 7, 8, 9, 10, 11, 12, 13, 14, 17] mixed0 (by kernel_rfl) (by kernel_rfl) (by kernel_rfl) (by rfl) (by exact (Sep.holeL H.drew 0)) ?_
   obtain ⟨w102, hW⟩ : ∃ W : World, W = { w101 with drawn := w101.drawn + 1 } := ⟨_, rfl⟩
   rw [← hW]
   have H : Sep ok w w102 [.blk b1 79 [.slice none 0 0, .slice none 0 0], .blk b3 82 [.int .i64 0, .int .i64 0, .int .i64 0, .int .i64 0, .int .i64 0, .int .i64 0], .blk b5 79 [.slice A49 v47.1.Arena.Slots.length cp50, .slice A52 v47.1.Kids.length cp53], .blk b7 82 [.int .i64 v10.2.1.Slot, .int .i64 v10.2.1.Gen, .int .i64 v27.2.1.Slot, .int .i64 v27.2.1.Gen, .int .i64 v47.2.1.Slot, .int .i64 v47.2.1.Gen], .blk b18 79 [.slice A12 v10.1.Arena.Slots.length cp13, .slice A15 v10.1.Kids.length cp16], .blk b20 81 [.int .i64 v10.2.1.Slot, .int .i64 v10.2.1.Gen], .blk b35 79 [.slice A29 v27.1.Arena.Slots.length cp30, .slice A32 v27.1.Kids.length cp33], .blk b37 81 [.int .i64 v27.2.1.Slot, .int .i64 v27.2.1.Gen], .blk b55 79 [.slice A49 v47.1.Arena.Slots.length cp50, .slice A52 v47.1.Kids.length cp53], .blk b57 81 [.int .i64 v47.2.1.Slot, .int .i64 v47.2.1.Gen], .blk b75 79 [.slice A69 v67.1.Arena.Slots.length cp70, .slice A72 v67.1.Kids.length cp73], .blk b87 79 [.slice A81 v79.1.Arena.Slots.length cp82, .slice A84 v79.1.Kids.length cp85], .blk b99 79 [.slice A93 v91.1.Arena.Slots.length cp94, .slice A96 v91.1.Kids.length cp97]] [RE.rd k_Slot A12 cp13 v10.1.Arena.Slots, RE.rd (Kd.slice k_Handle) A15 cp16 v10.1.Kids, RE.rd k_Slot A29 cp30 v27.1.Arena.Slots, RE.rd (Kd.slice k_Handle) A32 cp33 v27.1.Kids, RE.rd k_Slot A49 cp50 v47.1.Arena.Slots, RE.rd (Kd.slice k_Handle) A52 cp53 v47.1.Kids, RE.rd k_Slot A69 cp70 v67.1.Arena.Slots, RE.rd (Kd.slice k_Handle) A72 cp73 v67.1.Kids, RE.rd k_Slot A81 cp82 v79.1.Arena.Slots, RE.rd (Kd.slice k_Handle) A84 cp85 v79.1.Kids, RE.rd k_Slot A93 cp94 v91.1.Arena.Slots, RE.rd (Kd.slice k_Handle) A96 cp97 v91.1.Kids] := by rw [hW]; exact H.drew
   clear hW
   refine PR_take (by rfl) (by rfl) (by rfl) (by exact wn0 rfl) (fun wS (H : Sep ok w wS [.hole, .blk b3 82 [.int .i64 0, .int .i64 0, .int .i64 0, .int .i64 0, .int .i64 0, .int .i64 0], .blk b5 79 [.slice A49 v47.1.Arena.Slots.length cp50, .slice A52 v47.1.Kids.length cp53], .blk b7 82 [.int .i64 v10.2.1.Slot, .int .i64 v10.2.1.Gen, .int .i64 v27.2.1.Slot, .int .i64 v27.2.1.Gen, .int .i64 v47.2.1.Slot, .int .i64 v47.2.1.Gen], .blk b18 79 [.slice A12 v10.1.Arena.Slots.length cp13, .slice A15 v10.1.Kids.length cp16], .blk b20 81 [.int .i64 v10.2.1.Slot, .int .i64 v10.2.1.Gen], .blk b35 79 [.slice A29 v27.1.Arena.Slots.length cp30, .slice A32 v27.1.Kids.length cp33], .blk b37 81 [.int .i64 v27.2.1.Slot, .int .i64 v27.2.1.Gen], .blk b55 79 [.slice A49 v47.1.Arena.Slots.length cp50, .slice A52 v47.1.Kids.length cp53], .blk b57 81 [.int .i64 v47.2.1.Slot, .int .i64 v47.2.1.Gen], .blk b75 79 [.slice A69 v67.1.Arena.Slots.length cp70, .slice A72 v67.1.Kids.length cp73], .blk b87 79 [.slice A81 v79.1.Arena.Slots.length cp82, .slice A84 v79.1.Kids.length cp85], .blk b99 79 [.slice A93 v91.1.Arena.Slots.length cp94, .slice A96 v91.1.Kids.length cp97]] [RE.rd k_Slot A12 cp13 v10.1.Arena.Slots, RE.rd (Kd.slice k_Handle) A15 cp16 v10.1.Kids, RE.rd k_Slot A29 cp30 v27.1.Arena.Slots, RE.rd (Kd.slice k_Handle) A32 cp33 v27.1.Kids, RE.rd k_Slot A49 cp50 v47.1.Arena.Slots, RE.rd (Kd.slice k_Handle) A52 cp53 v47.1.Kids, RE.rd k_Slot A69 cp70 v67.1.Arena.Slots, RE.rd (Kd.slice k_Handle) A72 cp73 v67.1.Kids, RE.rd k_Slot A81 cp82 v79.1.Arena.Slots, RE.rd (Kd.slice k_Handle) A84 cp85 v79.1.Kids, RE.rd k_Slot A93 cp94 v91.1.Arena.Slots, RE.rd (Kd.slice k_Handle) A96 cp97 v91.1.Kids]) => (x_loadA (j := 0) (vs := [.slice A93 v91.1.Arena.Slots.length cp94, .slice A96 v91.1.Kids.length cp97]) ag79 (by rfl) (H.cells (i := 12) (by rfl)) (by rfl) (by rfl))) ?_
   refine PR_take (by rfl) (by rfl) (by rfl) (by exact wn0 rfl) (fun wS (H : Sep ok w wS [.hole, .blk b3 82 [.int .i64 0, .int .i64 0, .int .i64 0, .int .i64 0, .int .i64 0, .int .i64 0], .blk b5 79 [.slice A49 v47.1.Arena.Slots.length cp50, .slice A52 v47.1.Kids.length cp53], .blk b7 82 [.int .i64 v10.2.1.Slot, .int .i64 v10.2.1.Gen, .int .i64 v27.2.1.Slot, .int .i64 v27.2.1.Gen, .int .i64 v47.2.1.Slot, .int .i64 v47.2.1.Gen], .blk b18 79 [.slice A12 v10.1.Arena.Slots.length cp13, .slice A15 v10.1.Kids.length cp16], .blk b20 81 [.int .i64 v10.2.1.Slot, .int .i64 v10.2.1.Gen], .blk b35 79 [.slice A29 v27.1.Arena.Slots.length cp30, .slice A32 v27.1.Kids.length cp33], .blk b37 81 [.int .i64 v27.2.1.Slot, .int .i64 v27.2.1.Gen], .blk b55 79 [.slice A49 v47.1.Arena.Slots.length cp50, .slice A52 v47.1.Kids.length cp53], .blk b57 81 [.int .i64 v47.2.1.Slot, .int .i64 v47.2.1.Gen], .blk b75 79 [.slice A69 v67.1.Arena.Slots.length cp70, .slice A72 v67.1.Kids.length cp73], .blk b87 79 [.slice A81 v79.1.Arena.Slots.length cp82, .slice A84 v79.1.Kids.length cp85], .blk b99 79 [.slice A93 v91.1.Arena.Slots.length cp94, .slice A96 v91.1.Kids.length cp97]] [RE.rd k_Slot A12 cp13 v10.1.Arena.Slots, RE.rd (Kd.slice k_Handle) A15 cp16 v10.1.Kids, RE.rd k_Slot A29 cp30 v27.1.Arena.Slots, RE.rd (Kd.slice k_Handle) A32 cp33 v27.1.Kids, RE.rd k_Slot A49 cp50 v47.1.Arena.Slots, RE.rd (Kd.slice k_Handle) A52 cp53 v47.1.Kids, RE.rd k_Slot A69 cp70 v67.1.Arena.Slots, RE.rd (Kd.slice k_Handle) A72 cp73 v67.1.Kids, RE.rd k_Slot A81 cp82 v79.1.Arena.Slots, RE.rd (Kd.slice k_Handle) A84 cp85 v79.1.Kids, RE.rd k_Slot A93 cp94 v91.1.Arena.Slots, RE.rd (Kd.slice k_Handle) A96 cp97 v91.1.Kids]) => (x_loadA (j := 0) (vs := [.int .i64 v10.2.1.Slot, .int .i64 v10.2.1.Gen, .int .i64 v27.2.1.Slot, .int .i64 v27.2.1.Gen, .int .i64 v47.2.1.Slot, .int .i64 v47.2.1.Gen]) ag82 (by rfl) (H.cells (i := 3) (by rfl)) (by rfl) (by rfl))) ?_
   refine PR_free (by rfl) (by rfl) (by rfl) (by exact wn0 rfl) (fun wS => (x_move (v := .bool b61) (by rfl))) ?_
   refine PR_free (by rfl) (by rfl) (by rfl) (by exact wn0 rfl) (fun wS => (x_move (v := .bool b61) (by rfl))) ?_
   obtain ⟨b103, hmS, hm⟩ := bind_some hm
   refine PR_cut 3 (fun r' w' => Agr [(68, .bool b103), (0, .pointer (some ⟨b1, 0, none⟩)), (1, .pointer (some ⟨b3, 0, none⟩)), (13, .int .i64 v79.2), (15, .int .i64 v91.2), (62, .agg #[.slice A93 v91.1.Arena.Slots.length cp94, .slice A96 v91.1.Kids.length cp97]), (63, .agg #[.int .i64 v10.2.1.Slot, .int .i64 v10.2.1.Gen, .int .i64 v27.2.1.Slot, .int .i64 v27.2.1.Gen, .int .i64 v47.2.1.Slot, .int .i64 v47.2.1.Gen])] r' ∧ Sep ok w w' [.blk b1 79 [.slice none 0 0, .slice none 0 0], .blk b3 82 [.int .i64 0, .int .i64 0, .int .i64 0, .int .i64 0, .int .i64 0, .int .i64 0], .blk b5 79 [.slice A49 v47.1.Arena.Slots.length cp50, .slice A52 v47.1.Kids.length cp53], .blk b7 82 [.int .i64 v10.2.1.Slot, .int .i64 v10.2.1.Gen, .int .i64 v27.2.1.Slot, .int .i64 v27.2.1.Gen, .int .i64 v47.2.1.Slot, .int .i64 v47.2.1.Gen], .blk b18 79 [.slice A12 v10.1.Arena.Slots.length cp13, .slice A15 v10.1.Kids.length cp16], .blk b20 81 [.int .i64 v10.2.1.Slot, .int .i64 v10.2.1.Gen], .blk b35 79 [.slice A29 v27.1.Arena.Slots.length cp30, .slice A32 v27.1.Kids.length cp33], .blk b37 81 [.int .i64 v27.2.1.Slot, .int .i64 v27.2.1.Gen], .blk b55 79 [.slice A49 v47.1.Arena.Slots.length cp50, .slice A52 v47.1.Kids.length cp53], .blk b57 81 [.int .i64 v47.2.1.Slot, .int .i64 v47.2.1.Gen], .blk b75 79 [.slice A69 v67.1.Arena.Slots.length cp70, .slice A72 v67.1.Kids.length cp73], .blk b87 79 [.slice A81 v79.1.Arena.Slots.length cp82, .slice A84 v79.1.Kids.length cp85], .blk b99 79 [.slice A93 v91.1.Arena.Slots.length cp94, .slice A96 v91.1.Kids.length cp97]] [RE.rd k_Slot A12 cp13 v10.1.Arena.Slots, RE.rd (Kd.slice k_Handle) A15 cp16 v10.1.Kids, RE.rd k_Slot A29 cp30 v27.1.Arena.Slots, RE.rd (Kd.slice k_Handle) A32 cp33 v27.1.Kids, RE.rd k_Slot A49 cp50 v47.1.Arena.Slots, RE.rd (Kd.slice k_Handle) A52 cp53 v47.1.Kids, RE.rd k_Slot A69 cp70 v67.1.Arena.Slots, RE.rd (Kd.slice k_Handle) A72 cp73 v67.1.Kids, RE.rd k_Slot A81 cp82 v79.1.Arena.Slots, RE.rd (Kd.slice k_Handle) A84 cp85 v79.1.Kids, RE.rd k_Slot A93 cp94 v91.1.Arena.Slots, RE.rd (Kd.slice k_Handle) A96 cp97 v91.1.Kids]) ?_ ?_
   ·cases hbS : b61
    ·have hm := cond_f hbS hmS
     refine PR_offF (by rfl) (by rfl) (by rfl) (by exact wn2 rfl rfl rfl rfl) ?_
     refine PR_offF (by rfl) (by rfl) (by rfl) (by exact wn2 rfl rfl rfl rfl) ?_
     refine PR_free (by rfl) (by rfl) (by rfl) (by exact wn0 rfl) (fun wS => (x_pick_f (v := .bool false) (by rfl) (by rfl))) ?_
     refine PR_nil ?_
     exact ⟨⟨congrArg Value.bool (Option.some.inj hm), rfl, rfl, rfl, rfl, rfl, rfl, trivial⟩, H⟩
    ·have hm := cond_t hbS hmS
     refine PR_free (by rfl) (by rfl) (by rfl) (by exact wn1 rfl rfl rfl rfl) (fun wS => (x_move (v := .int .i64 v67.2) (by rfl))) ?_
     refine PR_free (by rfl) (by rfl) (by rfl) (by exact wn1 rfl rfl rfl rfl) (fun wS => (x_eql (by rfl) (by rfl))) ?_
     refine PR_free (by rfl) (by rfl) (by rfl) (by exact wn0 rfl) (fun wS => (x_pick_t (v := .bool (v67.2 == 0)) (by rfl) (by rfl))) ?_
     refine PR_nil ?_
     exact ⟨⟨congrArg Value.bool (Option.some.inj hm), rfl, rfl, rfl, rfl, rfl, rfl, trivial⟩, H⟩
   ·rintro r' w' ⟨hA, H⟩
    obtain ⟨r104, rfl⟩ := regen _ hA; clear hA
    obtain ⟨w105, rfl⟩ : ∃ W : World, W = w' := ⟨_, rfl⟩
    show PR _ _ _ _ _ _ _ _
    refine PR_free (by rfl) (by rfl) (by rfl) (by exact wn0 rfl) (fun wS => (x_move (v := .bool b103) (by rfl))) ?_
    obtain ⟨b106, hmS, hm⟩ := bind_some hm
    refine PR_cut 3 (fun r' w' => Agr [(72, .bool b106), (0, .pointer (some ⟨b1, 0, none⟩)), (1, .pointer (some ⟨b3, 0, none⟩)), (15, .int .i64 v91.2), (62, .agg #[.slice A93 v91.1.Arena.Slots.length cp94, .slice A96 v91.1.Kids.length cp97]), (63, .agg #[.int .i64 v10.2.1.Slot, .int .i64 v10.2.1.Gen, .int .i64 v27.2.1.Slot, .int .i64 v27.2.1.Gen, .int .i64 v47.2.1.Slot, .int .i64 v47.2.1.Gen])] r' ∧ Sep ok w w' [.blk b1 79 [.slice none 0 0, .slice none 0 0], .blk b3 82 [.int .i64 0, .int .i64 0, .int .i64 0, .int .i64 0, .int .i64 0, .int .i64 0], .blk b5 79 [.slice A49 v47.1.Arena.Slots.length cp50, .slice A52 v47.1.Kids.length cp53], .blk b7 82 [.int .i64 v10.2.1.Slot, .int .i64 v10.2.1.Gen, .int .i64 v27.2.1.Slot, .int .i64 v27.2.1.Gen, .int .i64 v47.2.1.Slot, .int .i64 v47.2.1.Gen], .blk b18 79 [.slice A12 v10.1.Arena.Slots.length cp13, .slice A15 v10.1.Kids.length cp16], .blk b20 81 [.int .i64 v10.2.1.Slot, .int .i64 v10.2.1.Gen], .blk b35 79 [.slice A29 v27.1.Arena.Slots.length cp30, .slice A32 v27.1.Kids.length cp33], .blk b37 81 [.int .i64 v27.2.1.Slot, .int .i64 v27.2.1.Gen], .blk b55 79 [.slice A49 v47.1.Arena.Slots.length cp50, .slice A52 v47.1.Kids.length cp53], .blk b57 81 [.int .i64 v47.2.1.Slot, .int .i64 v47.2.1.Gen], .blk b75 79 [.slice A69 v67.1.Arena.Slots.length cp70, .slice A72 v67.1.Kids.length cp73], .blk b87 79 [.slice A81 v79.1.Arena.Slots.length cp82, .slice A84 v79.1.Kids.length cp85], .blk b99 79 [.slice A93 v91.1.Arena.Slots.length cp94, .slice A96 v91.1.Kids.length cp97]] [RE.rd k_Slot A12 cp13 v10.1.Arena.Slots, RE.rd (Kd.slice k_Handle) A15 cp16 v10.1.Kids, RE.rd k_Slot A29 cp30 v27.1.Arena.Slots, RE.rd (Kd.slice k_Handle) A32 cp33 v27.1.Kids, RE.rd k_Slot A49 cp50 v47.1.Arena.Slots, RE.rd (Kd.slice k_Handle) A52 cp53 v47.1.Kids, RE.rd k_Slot A69 cp70 v67.1.Arena.Slots, RE.rd (Kd.slice k_Handle) A72 cp73 v67.1.Kids, RE.rd k_Slot A81 cp82 v79.1.Arena.Slots, RE.rd (Kd.slice k_Handle) A84 cp85 v79.1.Kids, RE.rd k_Slot A93 cp94 v91.1.Arena.Slots, RE.rd (Kd.slice k_Handle) A96 cp97 v91.1.Kids]) ?_ ?_
    ·cases hbS : b103
     ·have hm := cond_f hbS hmS
      refine PR_offF (by rfl) (by rfl) (by rfl) (by exact wn2 rfl rfl rfl rfl) ?_
      refine PR_offF (by rfl) (by rfl) (by rfl) (by exact wn2 rfl rfl rfl rfl) ?_
      refine PR_free (by rfl) (by rfl) (by rfl) (by exact wn0 rfl) (fun wS => (x_pick_f (v := .bool false) (by rfl) (by rfl))) ?_
      refine PR_nil ?_
      exact ⟨⟨congrArg Value.bool (Option.some.inj hm), rfl, rfl, rfl, rfl, rfl, trivial⟩, H⟩
     ·have hm := cond_t hbS hmS
      refine PR_free (by rfl) (by rfl) (by rfl) (by exact wn1 rfl rfl rfl rfl) (fun wS => (x_move (v := .int .i64 v79.2) (by rfl))) ?_
      refine PR_free (by rfl) (by rfl) (by rfl) (by exact wn1 rfl rfl rfl rfl) (fun wS => (x_eql (by rfl) (by rfl))) ?_
      refine PR_free (by rfl) (by rfl) (by rfl) (by exact wn0 rfl) (fun wS => (x_pick_t (v := .bool (v79.2 == 0)) (by rfl) (by rfl))) ?_
      refine PR_nil ?_
      exact ⟨⟨congrArg Value.bool (Option.some.inj hm), rfl, rfl, rfl, rfl, rfl, trivial⟩, H⟩
    ·rintro r' w' ⟨hA, H⟩
     obtain ⟨r107, rfl⟩ := regen _ hA; clear hA
     obtain ⟨w108, rfl⟩ : ∃ W : World, W = w' := ⟨_, rfl⟩
     show PR _ _ _ _ _ _ _ _
     refine PR_free (by rfl) (by rfl) (by rfl) (by exact wn0 rfl) (fun wS => (x_move (v := .bool b106) (by rfl))) ?_
     obtain ⟨b109, hmS, hm⟩ := bind_some hm
     refine PR_cut 3 (fun r' w' => Agr [(76, .bool b109), (0, .pointer (some ⟨b1, 0, none⟩)), (1, .pointer (some ⟨b3, 0, none⟩)), (62, .agg #[.slice A93 v91.1.Arena.Slots.length cp94, .slice A96 v91.1.Kids.length cp97]), (63, .agg #[.int .i64 v10.2.1.Slot, .int .i64 v10.2.1.Gen, .int .i64 v27.2.1.Slot, .int .i64 v27.2.1.Gen, .int .i64 v47.2.1.Slot, .int .i64 v47.2.1.Gen])] r' ∧ Sep ok w w' [.blk b1 79 [.slice none 0 0, .slice none 0 0], .blk b3 82 [.int .i64 0, .int .i64 0, .int .i64 0, .int .i64 0, .int .i64 0, .int .i64 0], .blk b5 79 [.slice A49 v47.1.Arena.Slots.length cp50, .slice A52 v47.1.Kids.length cp53], .blk b7 82 [.int .i64 v10.2.1.Slot, .int .i64 v10.2.1.Gen, .int .i64 v27.2.1.Slot, .int .i64 v27.2.1.Gen, .int .i64 v47.2.1.Slot, .int .i64 v47.2.1.Gen], .blk b18 79 [.slice A12 v10.1.Arena.Slots.length cp13, .slice A15 v10.1.Kids.length cp16], .blk b20 81 [.int .i64 v10.2.1.Slot, .int .i64 v10.2.1.Gen], .blk b35 79 [.slice A29 v27.1.Arena.Slots.length cp30, .slice A32 v27.1.Kids.length cp33], .blk b37 81 [.int .i64 v27.2.1.Slot, .int .i64 v27.2.1.Gen], .blk b55 79 [.slice A49 v47.1.Arena.Slots.length cp50, .slice A52 v47.1.Kids.length cp53], .blk b57 81 [.int .i64 v47.2.1.Slot, .int .i64 v47.2.1.Gen], .blk b75 79 [.slice A69 v67.1.Arena.Slots.length cp70, .slice A72 v67.1.Kids.length cp73], .blk b87 79 [.slice A81 v79.1.Arena.Slots.length cp82, .slice A84 v79.1.Kids.length cp85], .blk b99 79 [.slice A93 v91.1.Arena.Slots.length cp94, .slice A96 v91.1.Kids.length cp97]] [RE.rd k_Slot A12 cp13 v10.1.Arena.Slots, RE.rd (Kd.slice k_Handle) A15 cp16 v10.1.Kids, RE.rd k_Slot A29 cp30 v27.1.Arena.Slots, RE.rd (Kd.slice k_Handle) A32 cp33 v27.1.Kids, RE.rd k_Slot A49 cp50 v47.1.Arena.Slots, RE.rd (Kd.slice k_Handle) A52 cp53 v47.1.Kids, RE.rd k_Slot A69 cp70 v67.1.Arena.Slots, RE.rd (Kd.slice k_Handle) A72 cp73 v67.1.Kids, RE.rd k_Slot A81 cp82 v79.1.Arena.Slots, RE.rd (Kd.slice k_Handle) A84 cp85 v79.1.Kids, RE.rd k_Slot A93 cp94 v91.1.Arena.Slots, RE.rd (Kd.slice k_Handle) A96 cp97 v91.1.Kids]) ?_ ?_
     ·cases hbS : b106
      ·have hm := cond_f hbS hmS
       refine PR_offF (by rfl) (by rfl) (by rfl) (by exact wn2 rfl rfl rfl rfl) ?_
       refine PR_offF (by rfl) (by rfl) (by rfl) (by exact wn2 rfl rfl rfl rfl) ?_
       refine PR_free (by rfl) (by rfl) (by rfl) (by exact wn0 rfl) (fun wS => (x_pick_f (v := .bool false) (by rfl) (by rfl))) ?_
       refine PR_nil ?_
       exact ⟨⟨congrArg Value.bool (Option.some.inj hm), rfl, rfl, rfl, rfl, trivial⟩, H⟩
      ·have hm := cond_t hbS hmS
       refine PR_free (by rfl) (by rfl) (by rfl) (by exact wn1 rfl rfl rfl rfl) (fun wS => (x_move (v := .int .i64 v91.2) (by rfl))) ?_
       refine PR_free (by rfl) (by rfl) (by rfl) (by exact wn1 rfl rfl rfl rfl) (fun wS => (x_eql (by rfl) (by rfl))) ?_
       refine PR_free (by rfl) (by rfl) (by rfl) (by exact wn0 rfl) (fun wS => (x_pick_t (v := .bool (v91.2 == 0)) (by rfl) (by rfl))) ?_
       refine PR_nil ?_
       exact ⟨⟨congrArg Value.bool (Option.some.inj hm), rfl, rfl, rfl, rfl, trivial⟩, H⟩
     ·rintro r' w' ⟨hA, H⟩
      obtain ⟨r110, rfl⟩ := regen _ hA; clear hA
      obtain ⟨w111, rfl⟩ : ∃ W : World, W = w' := ⟨_, rfl⟩
      show PR _ _ _ _ _ _ _ _
      refine PR_run (by rfl) (O_store (i := 0) (off := 0) (by exact wn0 rfl) (by rfl) (by rfl) H (by rfl) (vs := [.slice A93 v91.1.Arena.Slots.length cp94, .slice A96 v91.1.Kids.length cp97]) (by rfl) sz79 (by rfl) (by rfl) (by rfl) (fun w112 (H : Sep ok w w112 [.blk b1 79 [.slice A93 v91.1.Arena.Slots.length cp94, .slice A96 v91.1.Kids.length cp97], .blk b3 82 [.int .i64 0, .int .i64 0, .int .i64 0, .int .i64 0, .int .i64 0, .int .i64 0], .blk b5 79 [.slice A49 v47.1.Arena.Slots.length cp50, .slice A52 v47.1.Kids.length cp53], .blk b7 82 [.int .i64 v10.2.1.Slot, .int .i64 v10.2.1.Gen, .int .i64 v27.2.1.Slot, .int .i64 v27.2.1.Gen, .int .i64 v47.2.1.Slot, .int .i64 v47.2.1.Gen], .blk b18 79 [.slice A12 v10.1.Arena.Slots.length cp13, .slice A15 v10.1.Kids.length cp16], .blk b20 81 [.int .i64 v10.2.1.Slot, .int .i64 v10.2.1.Gen], .blk b35 79 [.slice A29 v27.1.Arena.Slots.length cp30, .slice A32 v27.1.Kids.length cp33], .blk b37 81 [.int .i64 v27.2.1.Slot, .int .i64 v27.2.1.Gen], .blk b55 79 [.slice A49 v47.1.Arena.Slots.length cp50, .slice A52 v47.1.Kids.length cp53], .blk b57 81 [.int .i64 v47.2.1.Slot, .int .i64 v47.2.1.Gen], .blk b75 79 [.slice A69 v67.1.Arena.Slots.length cp70, .slice A72 v67.1.Kids.length cp73], .blk b87 79 [.slice A81 v79.1.Arena.Slots.length cp82, .slice A84 v79.1.Kids.length cp85], .blk b99 79 [.slice A93 v91.1.Arena.Slots.length cp94, .slice A96 v91.1.Kids.length cp97]] [RE.rd k_Slot A12 cp13 v10.1.Arena.Slots, RE.rd (Kd.slice k_Handle) A15 cp16 v10.1.Kids, RE.rd k_Slot A29 cp30 v27.1.Arena.Slots, RE.rd (Kd.slice k_Handle) A32 cp33 v27.1.Kids, RE.rd k_Slot A49 cp50 v47.1.Arena.Slots, RE.rd (Kd.slice k_Handle) A52 cp53 v47.1.Kids, RE.rd k_Slot A69 cp70 v67.1.Arena.Slots, RE.rd (Kd.slice k_Handle) A72 cp73 v67.1.Kids, RE.rd k_Slot A81 cp82 v79.1.Arena.Slots, RE.rd (Kd.slice k_Handle) A84 cp85 v79.1.Kids, RE.rd k_Slot A93 cp94 v91.1.Arena.Slots, RE.rd (Kd.slice k_Handle) A96 cp97 v91.1.Kids]) => ⟨(Sep.holeL H 0), ?_⟩))
      refine PR_tail (by rfl) (O_store (i := 1) (off := 0) (by exact wn0 rfl) (by rfl) (by rfl) H (by rfl) (vs := [.int .i64 v10.2.1.Slot, .int .i64 v10.2.1.Gen, .int .i64 v27.2.1.Slot, .int .i64 v27.2.1.Gen, .int .i64 v47.2.1.Slot, .int .i64 v47.2.1.Gen]) (by rfl) sz82 (by rfl) (by rfl) (by rfl) (fun w113 (H : Sep ok w w113 [.blk b1 79 [.slice A93 v91.1.Arena.Slots.length cp94, .slice A96 v91.1.Kids.length cp97], .blk b3 82 [.int .i64 v10.2.1.Slot, .int .i64 v10.2.1.Gen, .int .i64 v27.2.1.Slot, .int .i64 v27.2.1.Gen, .int .i64 v47.2.1.Slot, .int .i64 v47.2.1.Gen], .blk b5 79 [.slice A49 v47.1.Arena.Slots.length cp50, .slice A52 v47.1.Kids.length cp53], .blk b7 82 [.int .i64 v10.2.1.Slot, .int .i64 v10.2.1.Gen, .int .i64 v27.2.1.Slot, .int .i64 v27.2.1.Gen, .int .i64 v47.2.1.Slot, .int .i64 v47.2.1.Gen], .blk b18 79 [.slice A12 v10.1.Arena.Slots.length cp13, .slice A15 v10.1.Kids.length cp16], .blk b20 81 [.int .i64 v10.2.1.Slot, .int .i64 v10.2.1.Gen], .blk b35 79 [.slice A29 v27.1.Arena.Slots.length cp30, .slice A32 v27.1.Kids.length cp33], .blk b37 81 [.int .i64 v27.2.1.Slot, .int .i64 v27.2.1.Gen], .blk b55 79 [.slice A49 v47.1.Arena.Slots.length cp50, .slice A52 v47.1.Kids.length cp53], .blk b57 81 [.int .i64 v47.2.1.Slot, .int .i64 v47.2.1.Gen], .blk b75 79 [.slice A69 v67.1.Arena.Slots.length cp70, .slice A72 v67.1.Kids.length cp73], .blk b87 79 [.slice A81 v79.1.Arena.Slots.length cp82, .slice A84 v79.1.Kids.length cp85], .blk b99 79 [.slice A93 v91.1.Arena.Slots.length cp94, .slice A96 v91.1.Kids.length cp97]] [RE.rd k_Slot A12 cp13 v10.1.Arena.Slots, RE.rd (Kd.slice k_Handle) A15 cp16 v10.1.Kids, RE.rd k_Slot A29 cp30 v27.1.Arena.Slots, RE.rd (Kd.slice k_Handle) A32 cp33 v27.1.Kids, RE.rd k_Slot A49 cp50 v47.1.Arena.Slots, RE.rd (Kd.slice k_Handle) A52 cp53 v47.1.Kids, RE.rd k_Slot A69 cp70 v67.1.Arena.Slots, RE.rd (Kd.slice k_Handle) A72 cp73 v67.1.Kids, RE.rd k_Slot A81 cp82 v79.1.Arena.Slots, RE.rd (Kd.slice k_Handle) A84 cp85 v79.1.Kids, RE.rd k_Slot A93 cp94 v91.1.Arena.Slots, RE.rd (Kd.slice k_Handle) A96 cp97 v91.1.Kids]) => ?_))
      refine PR_free (by rfl) (by rfl) (by rfl) (by exact wn0 rfl) (fun wS => (x_assign (v := .bool b109) (by rfl))) ?_
      refine PR_nil ?_
      refine W_ret ?_
      obtain rfl := Option.some.inj hm
      exact ⟨[.agg #[.slice A93 v91.1.Arena.Slots.length cp94, .slice A96 v91.1.Kids.length cp97], .agg #[.int .i64 v10.2.1.Slot, .int .i64 v10.2.1.Gen, .int .i64 v27.2.1.Slot, .int .i64 v27.2.1.Gen, .int .i64 v47.2.1.Slot, .int .i64 v47.2.1.Gen], .bool b109], (.cellA (by rfl) ag79 (H.cells (i := 0) (by rfl)) (by rfl) (.cellA (by rfl) ag82 (H.cells (i := 1) (by rfl)) (by rfl) (.tmp (by rfl) rfl))), A93, cp94, A96, cp97, rfl, (H.forgetAll).pick [10, 11]⟩
end Go.Proofs.YtobkigllalbkiaaV.M

/- A plain Lean function that answers as the Go function does (none: not told), and the proof that a call answers so. Written by program. -/
set_option linter.unusedVariables false
namespace Go.Proofs.YtobkigllalbkiaaV.M
open Go.RowKit Go.Proofs.YtobkigllalbkiaaV
/-- diorama/nodes.Kids -/
def m39 (K : Nat) (a0 : S_Graph) (a1 : S_Handle) : Option ((List S_Handle) × Int) :=
 ((m79 K a0 ([a1])).bind fun v18 => (bif (v18 != 0) then some ([], v18) else (idx a0.Kids a1.Slot fun el21 => ((m82 K el21).bind fun v39 => some (v39, 0)))))
set_option maxRecDepth 100000 in
set_option maxHeartbeats 4000000 in
theorem c39 (ok : Okp) (K : Nat) (w : World) (a0 : S_Graph) (A1 : Option Addr) (cp2 : Nat) (A5 : Option Addr) (cp6 : Nat) (a1 : S_Handle) (hR3 : Rd k_Slot w ok A1 cp2 a0.Arena.Slots) (hR7 : Rd (Kd.slice k_Handle) w ok A5 cp6 a0.Kids) (res : (List S_Handle) × Int) (hm : m39 K a0 a1 = some res) :
  Calls Try.prog 39 #[.agg #[.slice A1 a0.Arena.Slots.length cp2, .slice A5 a0.Kids.length cp6], .agg #[.int .i64 a1.Slot, .int .i64 a1.Gen]] w (fun e w' => ∃ (A0_ : Option Addr) (c0_ : Nat), e = .returned (tup [.slice A0_ res.1.length c0_, .int .i64 res.2]) ∧ Sep ok w w' [] [RE.rd k_Handle A0_ c0_ res.1]) := by
 refine calls_W (args := [.agg #[.slice A1 a0.Arena.Slots.length cp2, .slice A5 a0.Kids.length cp6], .agg #[.int .i64 a1.Slot, .int .i64 a1.Gen]]) Try.func39 rfl Try.ntmps39 Try.results39 rfl fun r hr => ?_
 obtain ⟨r1, rfl⟩ := regen (r := r) [(0, .agg #[.slice A1 a0.Arena.Slots.length cp2, .slice A5 a0.Kids.length cp6]), (1, .agg #[.int .i64 a1.Slot, .int .i64 a1.Gen])] ⟨hr 0 _ rfl, hr 1 _ rfl, trivial⟩
 have H : Sep ok w w [] [RE.rd k_Slot A1 cp2 a0.Arena.Slots, RE.rd (Kd.slice k_Handle) A5 cp6 a0.Kids] := Sep.arg (Sep.arg (Sep.start ok w) (re := RE.rd k_Slot A1 cp2 a0.Arena.Slots) rfl rfl hR3) (re := RE.rd (Kd.slice k_Handle) A5 cp6 a0.Kids) rfl rfl hR7
 unfold m39 at hm
 refine W_seq ?_
 refine W_region ?_
 refine RL_cons (O_box (by exact wn0 rfl) (by rfl) (by rfl) (by rfl) H (fun w10 b9 (H : Sep ok w w10 [.blk b9 79 [.slice A1 a0.Arena.Slots.length cp2, .slice A5 a0.Kids.length cp6]] [RE.rd k_Slot A1 cp2 a0.Arena.Slots, RE.rd (Kd.slice k_Handle) A5 cp6 a0.Kids]) => ?_))
 refine RL_cons (O_box (by exact wn0 rfl) (by rfl) (by rfl) (by rfl) H (fun w12 b11 (H : Sep ok w w12 [.blk b9 79 [.slice A1 a0.Arena.Slots.length cp2, .slice A5 a0.Kids.length cp6], .blk b11 81 [.int .i64 a1.Slot, .int .i64 a1.Gen]] [RE.rd k_Slot A1 cp2 a0.Arena.Slots, RE.rd (Kd.slice k_Handle) A5 cp6 a0.Kids]) => ?_))
 refine RL_pure (by exact wn0 rfl) (by rfl) (by rfl) (x_assign (v := .slice none 0 0) (by rfl)) ?_
 refine RL_pure (by exact wn0 rfl) (by rfl) (by rfl) (x_assign (v := .int .i64 0) (by rfl)) ?_
 refine RL_nil ?_
 refine W_seq ?_
 refine W_seq ?_
 refine W_region ?_
 refine RL_pure (by exact wn0 rfl) (by rfl) (by rfl) (x_loadA (j := 0) (vs := [.slice A1 a0.Arena.Slots.length cp2, .slice A5 a0.Kids.length cp6]) ag79 (by rfl) (H.cells (i := 0) (by rfl)) (by rfl) (by rfl)) ?_
 refine RL_pure (by exact wn0 rfl) (by rfl) (by rfl) (x_loadA (j := 0) (vs := [.int .i64 a1.Slot, .int .i64 a1.Gen]) ag81 (by rfl) (H.cells (i := 1) (by rfl)) (by rfl) (by rfl)) ?_
 refine RL_cons (O_buildSlice (vs := [(0, .agg #[.int .i64 a1.Slot, .int .i64 a1.Gen])]) (cs := [.int .i64 a1.Slot, .int .i64 a1.Gen]) (by exact wn0 rfl) (by rfl) sl87 sz81 ze81 (by rfl) (by rfl) (by rfl) (by kernel_rfl) H (fun w14 b13 (H : Sep ok w w14 [.blk b9 79 [.slice A1 a0.Arena.Slots.length cp2, .slice A5 a0.Kids.length cp6], .blk b11 81 [.int .i64 a1.Slot, .int .i64 a1.Gen], .blk b13 81 [.int .i64 a1.Slot, .int .i64 a1.Gen]] [RE.rd k_Slot A1 cp2 a0.Arena.Slots, RE.rd (Kd.slice k_Handle) A5 cp6 a0.Kids]) => ?_))
 have H : Sep ok w w14 [.blk b9 79 [.slice A1 a0.Arena.Slots.length cp2, .slice A5 a0.Kids.length cp6], .blk b11 81 [.int .i64 a1.Slot, .int .i64 a1.Gen], .row (.slice (some ⟨b13, 0, none⟩) ([a1]).length 1) 81 k_Handle.sz ([a1]).length [.int .i64 a1.Slot, .int .i64 a1.Gen]] [RE.rd k_Slot A1 cp2 a0.Arena.Slots, RE.rd (Kd.slice k_Handle) A5 cp6 a0.Kids, RE.chunks k_Handle [.int .i64 a1.Slot, .int .i64 a1.Gen] ([a1])] := H.rowOf (i := 2) (D := k_Handle) (xs := [a1]) (by rfl) (by exact ⟨rfl, rfl⟩) (by rfl)
 obtain ⟨v18, hv17, hm⟩ := bind_some hm
 refine RL_cons (O_call (by exact wn0 rfl) (by rfl) (by rfl) (x_callL (by rfl) (args := [.agg #[.slice A1 a0.Arena.Slots.length cp2, .slice A5 a0.Kids.length cp6], .slice (some ⟨b13, 0, none⟩) ([a1]).length 1]) (by rfl) (cf79 _ _)) (c79 okT K w14 a0 A1 cp2 A5 cp6 ([a1]) (some ⟨b13, 0, none⟩) 1 (H.rd (i := 0) (by rfl)).any (H.rd (i := 1) (by rfl)).any (H.rowRd (i := 2) (j := 2) (by rfl) (by rfl)) v18 hv17) ?_)
 rintro e w19 ⟨rfl, H2⟩
 have H : Sep ok w w19 [.blk b9 79 [.slice A1 a0.Arena.Slots.length cp2, .slice A5 a0.Kids.length cp6], .blk b11 81 [.int .i64 a1.Slot, .int .i64 a1.Gen], .row (.slice (some ⟨b13, 0, none⟩) ([a1]).length 1) 81 k_Handle.sz ([a1]).length [.int .i64 a1.Slot, .int .i64 a1.Gen]] [RE.rd k_Slot A1 cp2 a0.Arena.Slots, RE.rd (Kd.slice k_Handle) A5 cp6 a0.Kids, RE.chunks k_Handle [.int .i64 a1.Slot, .int .i64 a1.Gen] ([a1])] := H.below H2.base
 clear H2
 refine ⟨_, rfl, ?_⟩
 show RL _ _ _ _ _ _ _
 refine RL_pure (by exact wn0 rfl) (by rfl) (by rfl) (x_assign (v := .int .i64 v18) (by rfl)) ?_
 refine RL_nil ?_
 refine W_seq ?_
 refine W_region ?_
 refine RL_pure (by exact wn0 rfl) (by rfl) (by rfl) (x_move (v := .int .i64 v18) (by rfl)) ?_
 refine RL_pure (by exact wn0 rfl) (by rfl) (by rfl) (x_neq (by rfl) (by rfl)) ?_
 refine RL_nil ?_
 refine W_cond (by rfl) (fun hb => ?_) (fun hb => ?_)
 ·have hm := cond_t hb hm
  refine W_seq ?_
  refine W_region ?_
  refine RL_pure (by exact wn0 rfl) (by rfl) (by rfl) (x_move (v := .int .i64 v18) (by rfl)) ?_
  refine RL_pure (by exact wn0 rfl) (by rfl) (by rfl) (x_assign (v := .slice none 0 0) (by rfl)) ?_
  refine RL_pure (by exact wn0 rfl) (by rfl) (by rfl) (x_assign (v := .int .i64 v18) (by rfl)) ?_
  refine RL_nil ?_
  refine W_ret ?_
  have H : Sep ok w w19 [.blk b9 79 [.slice A1 a0.Arena.Slots.length cp2, .slice A5 a0.Kids.length cp6], .blk b11 81 [.int .i64 a1.Slot, .int .i64 a1.Gen], .row (.slice (some ⟨b13, 0, none⟩) ([a1]).length 1) 81 k_Handle.sz ([a1]).length [.int .i64 a1.Slot, .int .i64 a1.Gen]] [RE.rd k_Slot A1 cp2 a0.Arena.Slots, RE.rd (Kd.slice k_Handle) A5 cp6 a0.Kids, RE.chunks k_Handle [.int .i64 a1.Slot, .int .i64 a1.Gen] ([a1]), RE.rd k_Handle none 0 ([])] := Sep.also H (re := RE.rd k_Handle none 0 ([])) (Rd.nil (by decide))
  obtain rfl := Option.some.inj hm
  exact ⟨[.slice none 0 0, .int .i64 v18], (.tmp (by rfl) (.tmp (by rfl) rfl)), none, 0, rfl, (H.forgetAll).pick [3]⟩
 ·have hm := cond_f hb hm
  refine W_skip ?_
  refine W_seq ?_
  refine W_region ?_
  refine RL_pure (by exact wn0 rfl) (by rfl) (by rfl) (x_fieldAddr fo79_1 (by rfl)) ?_
  refine RL_pure (by exact wn0 rfl) (by rfl) (by rfl) (x_load (j := 1) (v := .slice A5 a0.Kids.length cp6) sc77 (by rfl) (H.cells (i := 0) (by rfl)) (by rfl)) ?_
  refine RL_pure (by exact wn0 rfl) (by rfl) (by rfl) (x_fieldAddr fo81_0 (by rfl)) ?_
  refine RL_pure (by exact wn0 rfl) (by rfl) (by rfl) (x_load (j := 0) (v := .int .i64 a1.Slot) sc3 (by rfl) (H.cells (i := 1) (by rfl)) (by rfl)) ?_
  obtain ⟨el21, h22, h23, he24, hm⟩ := idx_some hm
  obtain ⟨g26, o27, hA25⟩ := (H.rd (i := 1) (by rfl)).addr he24
  obtain ⟨cs28, hk29, hat30, hg_cs28⟩ := (H.rd (i := 1) (by rfl)).openAt hA25 he24
  obtain ⟨A33, cp34, rfl, hR36⟩ := hk29
  have H : Sep ok w w19 [.blk b9 79 [.slice A1 a0.Arena.Slots.length cp2, .slice A5 a0.Kids.length cp6], .blk b11 81 [.int .i64 a1.Slot, .int .i64 a1.Gen], .row (.slice (some ⟨b13, 0, none⟩) ([a1]).length 1) 81 k_Handle.sz ([a1]).length [.int .i64 a1.Slot, .int .i64 a1.Gen]] [RE.rd k_Slot A1 cp2 a0.Arena.Slots, RE.rd (Kd.slice k_Handle) A5 cp6 a0.Kids, RE.chunks k_Handle [.int .i64 a1.Slot, .int .i64 a1.Gen] ([a1]), RE.cells g26 (o27 + (a1.Slot).toNat * 1) [.slice A33 el21.length cp34]] := Sep.also H (re := RE.cells g26 (o27 + (a1.Slot).toNat * 1) [.slice A33 el21.length cp34]) ⟨hg_cs28, hat30⟩
  have H : Sep ok w w19 [.blk b9 79 [.slice A1 a0.Arena.Slots.length cp2, .slice A5 a0.Kids.length cp6], .blk b11 81 [.int .i64 a1.Slot, .int .i64 a1.Gen], .row (.slice (some ⟨b13, 0, none⟩) ([a1]).length 1) 81 k_Handle.sz ([a1]).length [.int .i64 a1.Slot, .int .i64 a1.Gen]] [RE.rd k_Slot A1 cp2 a0.Arena.Slots, RE.rd (Kd.slice k_Handle) A5 cp6 a0.Kids, RE.chunks k_Handle [.int .i64 a1.Slot, .int .i64 a1.Gen] ([a1]), RE.cells g26 (o27 + (a1.Slot).toNat * 1) [.slice A33 el21.length cp34], RE.rd k_Handle A33 cp34 el21] := Sep.also H (re := RE.rd k_Handle A33 cp34 el21) hR36
  refine RL_pure (by exact wn0 rfl) (by rfl) (by rfl) (x_indexAddr sl77 sz87 (by rfl) (by rfl) hA25 h22 h23) ?_
  refine RL_pure (by exact wn0 rfl) (by rfl) (by rfl) (x_load (j := 0) (v := .slice A33 el21.length cp34) sc87 (by rfl) (H.cellsR (i := 3) (by rfl)) (by rfl)) ?_
  obtain ⟨v39, hv38, hm⟩ := bind_some hm
  refine RL_cons (O_call (by exact wn0 rfl) (by rfl) (by rfl) (x_callL (by rfl) (args := [.slice A33 el21.length cp34]) (by rfl) (cf82 _ _)) (c82 (okS ok w [.blk b9 79 [.slice A1 a0.Arena.Slots.length cp2, .slice A5 a0.Kids.length cp6], .blk b11 81 [.int .i64 a1.Slot, .int .i64 a1.Gen], .row (.slice (some ⟨b13, 0, none⟩) ([a1]).length 1) 81 k_Handle.sz ([a1]).length [.int .i64 a1.Slot, .int .i64 a1.Gen]]) K w19 el21 A33 cp34 (H.rd (i := 4) (by rfl)) v39 hv38) ?_)
  rintro e w40 ⟨A41, cp42, cs43, rfl, H2⟩
  have H : Sep ok w w40 [.blk b9 79 [.slice A1 a0.Arena.Slots.length cp2, .slice A5 a0.Kids.length cp6], .blk b11 81 [.int .i64 a1.Slot, .int .i64 a1.Gen], .row (.slice (some ⟨b13, 0, none⟩) ([a1]).length 1) 81 k_Handle.sz ([a1]).length [.int .i64 a1.Slot, .int .i64 a1.Gen], .row (.slice A41 v39.length cp42) 81 k_Handle.sz v39.length cs43] [RE.rd k_Slot A1 cp2 a0.Arena.Slots, RE.rd (Kd.slice k_Handle) A5 cp6 a0.Kids, RE.chunks k_Handle [.int .i64 a1.Slot, .int .i64 a1.Gen] ([a1]), RE.cells g26 (o27 + (a1.Slot).toNat * 1) [.slice A33 el21.length cp34], RE.rd k_Handle A33 cp34 el21, RE.chunks k_Handle cs43 v39] := H.call H2
  clear H2
  refine ⟨_, rfl, ?_⟩
  show RL _ _ _ _ _ _ _
  refine RL_pure (by exact wn0 rfl) (by rfl) (by rfl) (x_assign (v := .slice A41 v39.length cp42) (by rfl)) ?_
  refine RL_pure (by exact wn0 rfl) (by rfl) (by rfl) (x_assign (v := .int .i64 0) (by rfl)) ?_
  refine RL_nil ?_
  refine W_ret ?_
  have H : Sep ok w w40 [.blk b9 79 [.slice A1 a0.Arena.Slots.length cp2, .slice A5 a0.Kids.length cp6], .blk b11 81 [.int .i64 a1.Slot, .int .i64 a1.Gen], .row (.slice (some ⟨b13, 0, none⟩) ([a1]).length 1) 81 k_Handle.sz ([a1]).length [.int .i64 a1.Slot, .int .i64 a1.Gen], .hole] [RE.rd k_Slot A1 cp2 a0.Arena.Slots, RE.rd (Kd.slice k_Handle) A5 cp6 a0.Kids, RE.chunks k_Handle [.int .i64 a1.Slot, .int .i64 a1.Gen] ([a1]), RE.cells g26 (o27 + (a1.Slot).toNat * 1) [.slice A33 el21.length cp34], RE.rd k_Handle A33 cp34 el21, RE.rd k_Handle A41 cp42 v39] := H.frozen (i := 3) (j := 5) (by rfl) (by rfl)
  obtain rfl := Option.some.inj hm
  exact ⟨[.slice A41 v39.length cp42, .int .i64 0], (.tmp (by rfl) (.tmp (by rfl) rfl)), A41, cp42, rfl, (H.forgetAll).pick [5]⟩
end Go.Proofs.YtobkigllalbkiaaV.M

/- A plain Lean function that answers as the Go function does (none: not told), and the proof that a call answers so. Written by program. -/
set_option linter.unusedVariables false
namespace Go.Proofs.YtobkigllalbkiaaV.M
open Go.RowKit Go.Proofs.YtobkigllalbkiaaV
/-- diorama/arena.Kill -/
def m83 (K : Nat) (a0 : S_Arena) (a1 : S_Handle) : Option (S_Arena × Int) :=
 ((m88 K a0).bind fun v12 => (bif (v12 != 0) then some ((⟨[]⟩ : S_Arena), v12) else ((m120 K a0 a1).bind fun v17 => (bif (!v17) then some ((⟨[]⟩ : S_Arena), 50) else ((m102 K a0).bind fun v22 => (idx v22.Slots a1.Slot fun el30 => (lete (v22.Slots.set ((a1.Slot).toNat) (⟨el30.Gen, false⟩ : S_Slot)) fun l39 => some ((⟨l39⟩ : S_Arena), 0))))))))
set_option maxRecDepth 100000 in
set_option maxHeartbeats 4000000 in
theorem c83 (ok : Okp) (K : Nat) (w : World) (a0 : S_Arena) (A1 : Option Addr) (cp2 : Nat) (a1 : S_Handle) (hR3 : Rd k_Slot w ok A1 cp2 a0.Slots) (res : S_Arena × Int) (hm : m83 K a0 a1 = some res) :
  Calls Try.prog 83 #[.agg #[.slice A1 a0.Slots.length cp2], .agg #[.int .i64 a1.Slot, .int .i64 a1.Gen]] w (fun e w' => ∃ (A0_ : Option Addr) (c0_ : Nat), e = .returned (tup [.agg #[.slice A0_ res.1.Slots.length c0_], .int .i64 res.2]) ∧ Sep ok w w' [] [RE.rd k_Slot A0_ c0_ res.1.Slots]) := by
 refine calls_W (args := [.agg #[.slice A1 a0.Slots.length cp2], .agg #[.int .i64 a1.Slot, .int .i64 a1.Gen]]) Try.func83 rfl Try.ntmps83 Try.results83 rfl fun r hr => ?_
 obtain ⟨r1, rfl⟩ := regen (r := r) [(0, .agg #[.slice A1 a0.Slots.length cp2]), (1, .agg #[.int .i64 a1.Slot, .int .i64 a1.Gen])] ⟨hr 0 _ rfl, hr 1 _ rfl, trivial⟩
 have H : Sep ok w w [] [RE.rd k_Slot A1 cp2 a0.Slots] := Sep.arg (Sep.start ok w) (re := RE.rd k_Slot A1 cp2 a0.Slots) rfl rfl hR3
 unfold m83 at hm
 refine W_seq ?_
 refine W_region ?_
 refine RL_cons (O_box (by exact wn0 rfl) (by rfl) (by rfl) (by rfl) H (fun w6 b5 (H : Sep ok w w6 [.blk b5 76 [.slice A1 a0.Slots.length cp2]] [RE.rd k_Slot A1 cp2 a0.Slots]) => ?_))
 refine RL_cons (O_box (by exact wn0 rfl) (by rfl) (by rfl) (by rfl) H (fun w8 b7 (H : Sep ok w w8 [.blk b5 76 [.slice A1 a0.Slots.length cp2], .blk b7 81 [.int .i64 a1.Slot, .int .i64 a1.Gen]] [RE.rd k_Slot A1 cp2 a0.Slots]) => ?_))
 refine RL_cons (O_alloc (by exact wn0 rfl) (by rfl) ze76 (by rfl) H (fun w10 b9 (H : Sep ok w w10 [.blk b5 76 [.slice A1 a0.Slots.length cp2], .blk b7 81 [.int .i64 a1.Slot, .int .i64 a1.Gen], .blk b9 76 [.slice none 0 0]] [RE.rd k_Slot A1 cp2 a0.Slots]) => ?_))
 refine RL_pure (by exact wn0 rfl) (by rfl) (by rfl) (x_assign (v := .int .i64 0) (by rfl)) ?_
 refine RL_nil ?_
 refine W_seq ?_
 refine W_seq ?_
 refine W_region ?_
 refine RL_pure (by exact wn0 rfl) (by rfl) (by rfl) (x_loadA (j := 0) (vs := [.slice A1 a0.Slots.length cp2]) ag76 (by rfl) (H.cells (i := 0) (by rfl)) (by rfl) (by rfl)) ?_
 obtain ⟨v12, hv11, hm⟩ := bind_some hm
 refine RL_cons (O_call (by exact wn0 rfl) (by rfl) (by rfl) (x_callL (by rfl) (args := [.agg #[.slice A1 a0.Slots.length cp2]]) (by rfl) (cf88 _ _)) (c88 okT K w10 a0 A1 cp2 (H.rd (i := 0) (by rfl)).any v12 hv11) ?_)
 rintro e w13 ⟨rfl, H2⟩
 have H : Sep ok w w13 [.blk b5 76 [.slice A1 a0.Slots.length cp2], .blk b7 81 [.int .i64 a1.Slot, .int .i64 a1.Gen], .blk b9 76 [.slice none 0 0]] [RE.rd k_Slot A1 cp2 a0.Slots] := H.below H2.base
 clear H2
 refine ⟨_, rfl, ?_⟩
 show RL _ _ _ _ _ _ _
 refine RL_pure (by exact wn0 rfl) (by rfl) (by rfl) (x_assign (v := .int .i64 v12) (by rfl)) ?_
 refine RL_nil ?_
 refine W_seq ?_
 refine W_region ?_
 refine RL_pure (by exact wn0 rfl) (by rfl) (by rfl) (x_move (v := .int .i64 v12) (by rfl)) ?_
 refine RL_pure (by exact wn0 rfl) (by rfl) (by rfl) (x_neq (by rfl) (by rfl)) ?_
 refine RL_nil ?_
 refine W_cond (by rfl) (fun hb => ?_) (fun hb => ?_)
 ·have hm := cond_t hb hm
  refine W_seq ?_
  refine W_region ?_
  refine RL_pure (by exact wn0 rfl) (by rfl) (by rfl) (x_build (vs := []) (cs := [.slice none 0 0]) (by rfl) (by kernel_rfl)) ?_
  refine RL_pure (by exact wn0 rfl) (by rfl) (by rfl) (x_move (v := .int .i64 v12) (by rfl)) ?_
  refine RL_cons (O_store (i := 2) (off := 0) (by exact wn0 rfl) (by rfl) (by rfl) H (by rfl) (vs := [.slice none 0 0]) (by rfl) sz76 (by rfl) (by rfl) (by rfl) (fun w14 (H : Sep ok w w14 [.blk b5 76 [.slice A1 a0.Slots.length cp2], .blk b7 81 [.int .i64 a1.Slot, .int .i64 a1.Gen], .blk b9 76 [.slice none 0 0]] [RE.rd k_Slot A1 cp2 a0.Slots]) => ?_))
  refine RL_pure (by exact wn0 rfl) (by rfl) (by rfl) (x_assign (v := .int .i64 v12) (by rfl)) ?_
  refine RL_nil ?_
  refine W_ret ?_
  have H : Sep ok w w14 [.blk b5 76 [.slice A1 a0.Slots.length cp2], .blk b7 81 [.int .i64 a1.Slot, .int .i64 a1.Gen], .blk b9 76 [.slice none 0 0]] [RE.rd k_Slot A1 cp2 a0.Slots, RE.rd k_Slot none 0 ([])] := Sep.also H (re := RE.rd k_Slot none 0 ([])) (Rd.nil (by decide))
  obtain rfl := Option.some.inj hm
  exact ⟨[.agg #[.slice none 0 0], .int .i64 v12], (.cellA (by rfl) ag76 (H.cells (i := 2) (by rfl)) (by rfl) (.tmp (by rfl) rfl)), none, 0, rfl, (H.forgetAll).pick [1]⟩
 ·have hm := cond_f hb hm
  refine W_skip ?_
  refine W_seq ?_
  refine W_seq ?_
  refine W_region ?_
  refine RL_pure (by exact wn0 rfl) (by rfl) (by rfl) (x_loadA (j := 0) (vs := [.slice A1 a0.Slots.length cp2]) ag76 (by rfl) (H.cells (i := 0) (by rfl)) (by rfl) (by rfl)) ?_
  refine RL_pure (by exact wn0 rfl) (by rfl) (by rfl) (x_loadA (j := 0) (vs := [.int .i64 a1.Slot, .int .i64 a1.Gen]) ag81 (by rfl) (H.cells (i := 1) (by rfl)) (by rfl) (by rfl)) ?_
  obtain ⟨v17, hv16, hm⟩ := bind_some hm
  refine RL_cons (O_call (by exact wn0 rfl) (by rfl) (by rfl) (x_callL (by rfl) (args := [.agg #[.slice A1 a0.Slots.length cp2], .agg #[.int .i64 a1.Slot, .int .i64 a1.Gen]]) (by rfl) (cf120 _ _)) (c120 okT K w13 a0 A1 cp2 a1 (H.rd (i := 0) (by rfl)).any v17 hv16) ?_)
  rintro e w18 ⟨rfl, H2⟩
  have H : Sep ok w w18 [.blk b5 76 [.slice A1 a0.Slots.length cp2], .blk b7 81 [.int .i64 a1.Slot, .int .i64 a1.Gen], .blk b9 76 [.slice none 0 0]] [RE.rd k_Slot A1 cp2 a0.Slots] := H.below H2.base
  clear H2
  refine ⟨_, rfl, ?_⟩
  show RL _ _ _ _ _ _ _
  refine RL_pure (by exact wn0 rfl) (by rfl) (by rfl) (x_not (by rfl)) ?_
  refine RL_nil ?_
  refine W_cond (by rfl) (fun hb => ?_) (fun hb => ?_)
  ·have hm := cond_t hb hm
   refine W_seq ?_
   refine W_region ?_
   refine RL_pure (by exact wn0 rfl) (by rfl) (by rfl) (x_build (vs := []) (cs := [.slice none 0 0]) (by rfl) (by kernel_rfl)) ?_
   refine RL_cons (O_store (i := 2) (off := 0) (by exact wn0 rfl) (by rfl) (by rfl) H (by rfl) (vs := [.slice none 0 0]) (by rfl) sz76 (by rfl) (by rfl) (by rfl) (fun w19 (H : Sep ok w w19 [.blk b5 76 [.slice A1 a0.Slots.length cp2], .blk b7 81 [.int .i64 a1.Slot, .int .i64 a1.Gen], .blk b9 76 [.slice none 0 0]] [RE.rd k_Slot A1 cp2 a0.Slots]) => ?_))
   refine RL_pure (by exact wn0 rfl) (by rfl) (by rfl) (x_assign (v := .int .i64 50) (by rfl)) ?_
   refine RL_nil ?_
   refine W_ret ?_
   have H : Sep ok w w19 [.blk b5 76 [.slice A1 a0.Slots.length cp2], .blk b7 81 [.int .i64 a1.Slot, .int .i64 a1.Gen], .blk b9 76 [.slice none 0 0]] [RE.rd k_Slot A1 cp2 a0.Slots, RE.rd k_Slot none 0 ([])] := Sep.also H (re := RE.rd k_Slot none 0 ([])) (Rd.nil (by decide))
   obtain rfl := Option.some.inj hm
   exact ⟨[.agg #[.slice none 0 0], .int .i64 50], (.cellA (by rfl) ag76 (H.cells (i := 2) (by rfl)) (by rfl) (.tmp (by rfl) rfl)), none, 0, rfl, (H.forgetAll).pick [1]⟩
  ·have hm := cond_f hb hm
   refine W_skip ?_
   refine W_seq ?_
   refine W_region ?_
   refine RL_pure (by exact wn0 rfl) (by rfl) (by rfl) (x_loadA (j := 0) (vs := [.slice A1 a0.Slots.length cp2]) ag76 (by rfl) (H.cells (i := 0) (by rfl)) (by rfl) (by rfl)) ?_
   obtain ⟨v22, hv21, hm⟩ := bind_some hm
   refine RL_cons (O_call (by exact wn0 rfl) (by rfl) (by rfl) (x_callL (by rfl) (args := [.agg #[.slice A1 a0.Slots.length cp2]]) (by rfl) (cf102 _ _)) (c102 (okS ok w [.blk b5 76 [.slice A1 a0.Slots.length cp2], .blk b7 81 [.int .i64 a1.Slot, .int .i64 a1.Gen], .blk b9 76 [.slice none 0 0]]) K w18 a0 A1 cp2 (H.rd (i := 0) (by rfl)) v22 hv21) ?_)
   rintro e w23 ⟨A24, cp25, cs26, rfl, H2⟩
   have H : Sep ok w w23 [.blk b5 76 [.slice A1 a0.Slots.length cp2], .blk b7 81 [.int .i64 a1.Slot, .int .i64 a1.Gen], .blk b9 76 [.slice none 0 0], .row (.slice A24 v22.Slots.length cp25) 96 k_Slot.sz v22.Slots.length cs26] [RE.rd k_Slot A1 cp2 a0.Slots, RE.chunks k_Slot cs26 v22.Slots] := H.call H2
   clear H2
   refine ⟨_, rfl, ?_⟩
   show RL _ _ _ _ _ _ _
   refine RL_cons (O_store (i := 0) (off := 0) (by exact wn0 rfl) (by rfl) (by rfl) H (by rfl) (vs := [.slice A24 v22.Slots.length cp25]) (by rfl) sz76 (by rfl) (by rfl) (by rfl) (fun w29 (H : Sep ok w w29 [.blk b5 76 [.slice A24 v22.Slots.length cp25], .blk b7 81 [.int .i64 a1.Slot, .int .i64 a1.Gen], .blk b9 76 [.slice none 0 0], .row (.slice A24 v22.Slots.length cp25) 96 k_Slot.sz v22.Slots.length cs26] [RE.rd k_Slot A1 cp2 a0.Slots, RE.chunks k_Slot cs26 v22.Slots]) => ?_))
   refine RL_nil ?_
   refine W_seq ?_
   refine W_region ?_
   refine RL_pure (by exact wn0 rfl) (by rfl) (by rfl) (x_fieldAddr fo76_0 (by rfl)) ?_
   refine RL_pure (by exact wn0 rfl) (by rfl) (by rfl) (x_load (j := 0) (v := .slice A24 v22.Slots.length cp25) sc74 (by rfl) (H.cells (i := 0) (by rfl)) (by rfl)) ?_
   refine RL_pure (by exact wn0 rfl) (by rfl) (by rfl) (x_fieldAddr fo81_0 (by rfl)) ?_
   refine RL_pure (by exact wn0 rfl) (by rfl) (by rfl) (x_load (j := 0) (v := .int .i64 a1.Slot) sc3 (by rfl) (H.cells (i := 1) (by rfl)) (by rfl)) ?_
   obtain ⟨el30, h31, h32, he33, hm⟩ := idx_some hm
   obtain ⟨g35, _, hA34, _, _⟩ := H.rowIdx (i := 3) (j := 1) (by rfl) (by rfl) he33
   refine RL_pure (by exact wn0 rfl) (by rfl) (by rfl) (x_indexAddr sl74 sz96 (by rfl) (by rfl) hA34 h31 h32) ?_
   refine RL_pure (by exact wn0 rfl) (by rfl) (by rfl) (x_fieldAddr fo96_1 (by rfl)) ?_
   obtain ⟨l39, hl40, hm⟩ := lete_some hm
   refine RL_cons (O_storeRow (D := k_Slot) (i := 3) (j := 1) (off := 1) (m := a1.Slot) (a := el30) (b := (⟨el30.Gen, false⟩ : S_Slot)) (vs := [.bool false]) (by exact wn0 rfl) H (by rfl) (by rfl) hA34 (by rfl) (by rfl) he33 (by rfl) sz4 (by rfl) (by rfl) (by intro ce hce; obtain rfl := hce; rfl) hl40 (fun w37 cs38 (H : Sep ok w w37 [.blk b5 76 [.slice A24 v22.Slots.length cp25], .blk b7 81 [.int .i64 a1.Slot, .int .i64 a1.Gen], .blk b9 76 [.slice none 0 0], .row (.slice A24 l39.length cp25) 96 k_Slot.sz l39.length cs38] [RE.rd k_Slot A1 cp2 a0.Slots, RE.chunks k_Slot cs38 l39]) => ?_))
   refine RL_nil ?_
   have hn41 : v22.Slots.length = l39.length := by rw [← hl40]; exact (List.length_set ..).symm
   have H : Sep ok w w37 [.blk b5 76 [.slice A24 l39.length cp25], .blk b7 81 [.int .i64 a1.Slot, .int .i64 a1.Gen], .blk b9 76 [.slice none 0 0], .row (.slice A24 l39.length cp25) 96 k_Slot.sz l39.length cs38] [RE.rd k_Slot A1 cp2 a0.Slots, RE.chunks k_Slot cs38 l39] := by (try rw [hn41] at H); exact H
   refine W_regen (l := [(2, .pointer (some ⟨b5, 0, none⟩)), (4, .pointer (some ⟨b9, 0, none⟩))]) ⟨rfl, rfl, trivial⟩ fun r42 => ?_
   refine W_seq ?_
   refine W_region ?_
   refine RL_pure (by exact wn0 rfl) (by rfl) (by rfl) (x_loadA (j := 0) (vs := [.slice A24 l39.length cp25]) ag76 (by rfl) (H.cells (i := 0) (by rfl)) (by rfl) (by rfl)) ?_
   refine RL_cons (O_store (i := 2) (off := 0) (by exact wn0 rfl) (by rfl) (by rfl) H (by rfl) (vs := [.slice A24 l39.length cp25]) (by rfl) sz76 (by rfl) (by rfl) (by rfl) (fun w43 (H : Sep ok w w43 [.blk b5 76 [.slice A24 l39.length cp25], .blk b7 81 [.int .i64 a1.Slot, .int .i64 a1.Gen], .blk b9 76 [.slice A24 l39.length cp25], .row (.slice A24 l39.length cp25) 96 k_Slot.sz l39.length cs38] [RE.rd k_Slot A1 cp2 a0.Slots, RE.chunks k_Slot cs38 l39]) => ?_))
   refine RL_pure (by exact wn0 rfl) (by rfl) (by rfl) (x_assign (v := .int .i64 0) (by rfl)) ?_
   refine RL_nil ?_
   refine W_ret ?_
   have H : Sep ok w w43 [.blk b5 76 [.slice A24 l39.length cp25], .blk b7 81 [.int .i64 a1.Slot, .int .i64 a1.Gen], .blk b9 76 [.slice A24 l39.length cp25], .hole] [RE.rd k_Slot A1 cp2 a0.Slots, RE.rd k_Slot A24 cp25 l39] := H.frozen (i := 3) (j := 1) (by rfl) (by rfl)
   obtain rfl := Option.some.inj hm
   exact ⟨[.agg #[.slice A24 l39.length cp25], .int .i64 0], (.cellA (by rfl) ag76 (H.cells (i := 2) (by rfl)) (by rfl) (.tmp (by rfl) rfl)), A24, cp25, rfl, (H.forgetAll).pick [1]⟩

set_option maxRecDepth 100000 in
set_option maxHeartbeats 4000000 in
theorem c83n (ok : Okp) (hno : ∀ k, ¬ ok.wr k) (K : Nat) (w : World) (a0 : S_Arena) (A1 : Option Addr) (cp2 : Nat) (a1 : S_Handle) (hR3 : Rd k_Slot w ok A1 cp2 a0.Slots) (res : S_Arena × Int) (hm : m83 K a0 a1 = some res) :
  Calls Try.prog 83 #[.agg #[.slice A1 a0.Slots.length cp2], .agg #[.int .i64 a1.Slot, .int .i64 a1.Gen]] w (fun e w' => ∃ (A0_ : Option Addr) (c0_ : Nat), e = .returned (tup [.agg #[.slice A0_ res.1.Slots.length c0_], .int .i64 res.2]) ∧ Sep ok w w' [] [RE.fr w.heap.size k_Slot A0_ c0_ res.1.Slots]) := by
 refine calls_W (args := [.agg #[.slice A1 a0.Slots.length cp2], .agg #[.int .i64 a1.Slot, .int .i64 a1.Gen]]) Try.func83 rfl Try.ntmps83 Try.results83 rfl fun r hr => ?_
 obtain ⟨r1, rfl⟩ := regen (r := r) [(0, .agg #[.slice A1 a0.Slots.length cp2]), (1, .agg #[.int .i64 a1.Slot, .int .i64 a1.Gen])] ⟨hr 0 _ rfl, hr 1 _ rfl, trivial⟩
 have H : Sep ok w w [] [RE.rd k_Slot A1 cp2 a0.Slots] := Sep.arg (Sep.start ok w) (re := RE.rd k_Slot A1 cp2 a0.Slots) rfl rfl hR3
 unfold m83 at hm
 refine W_seq ?_
 refine W_region ?_
 refine RL_cons (O_box (by exact wn0 rfl) (by rfl) (by rfl) (by rfl) H (fun w6 b5 (H : Sep ok w w6 [.blk b5 76 [.slice A1 a0.Slots.length cp2]] [RE.rd k_Slot A1 cp2 a0.Slots]) => ?_))
 refine RL_cons (O_box (by exact wn0 rfl) (by rfl) (by rfl) (by rfl) H (fun w8 b7 (H : Sep ok w w8 [.blk b5 76 [.slice A1 a0.Slots.length cp2], .blk b7 81 [.int .i64 a1.Slot, .int .i64 a1.Gen]] [RE.rd k_Slot A1 cp2 a0.Slots]) => ?_))
 refine RL_cons (O_alloc (by exact wn0 rfl) (by rfl) ze76 (by rfl) H (fun w10 b9 (H : Sep ok w w10 [.blk b5 76 [.slice A1 a0.Slots.length cp2], .blk b7 81 [.int .i64 a1.Slot, .int .i64 a1.Gen], .blk b9 76 [.slice none 0 0]] [RE.rd k_Slot A1 cp2 a0.Slots]) => ?_))
 refine RL_pure (by exact wn0 rfl) (by rfl) (by rfl) (x_assign (v := .int .i64 0) (by rfl)) ?_
 refine RL_nil ?_
 refine W_seq ?_
 refine W_seq ?_
 refine W_region ?_
 refine RL_pure (by exact wn0 rfl) (by rfl) (by rfl) (x_loadA (j := 0) (vs := [.slice A1 a0.Slots.length cp2]) ag76 (by rfl) (H.cells (i := 0) (by rfl)) (by rfl) (by rfl)) ?_
 obtain ⟨v12, hv11, hm⟩ := bind_some hm
 refine RL_cons (O_call (by exact wn0 rfl) (by rfl) (by rfl) (x_callL (by rfl) (args := [.agg #[.slice A1 a0.Slots.length cp2]]) (by rfl) (cf88 _ _)) (c88 okT K w10 a0 A1 cp2 (H.rd (i := 0) (by rfl)).any v12 hv11) ?_)
 rintro e w13 ⟨rfl, H2⟩
 have H : Sep ok w w13 [.blk b5 76 [.slice A1 a0.Slots.length cp2], .blk b7 81 [.int .i64 a1.Slot, .int .i64 a1.Gen], .blk b9 76 [.slice none 0 0]] [RE.rd k_Slot A1 cp2 a0.Slots] := H.below H2.base
 clear H2
 refine ⟨_, rfl, ?_⟩
 show RL _ _ _ _ _ _ _
 refine RL_pure (by exact wn0 rfl) (by rfl) (by rfl) (x_assign (v := .int .i64 v12) (by rfl)) ?_
 refine RL_nil ?_
 refine W_seq ?_
 refine W_region ?_
 refine RL_pure (by exact wn0 rfl) (by rfl) (by rfl) (x_move (v := .int .i64 v12) (by rfl)) ?_
 refine RL_pure (by exact wn0 rfl) (by rfl) (by rfl) (x_neq (by rfl) (by rfl)) ?_
 refine RL_nil ?_
 refine W_cond (by rfl) (fun hb => ?_) (fun hb => ?_)
 ·have hm := cond_t hb hm
  refine W_seq ?_
  refine W_region ?_
  refine RL_pure (by exact wn0 rfl) (by rfl) (by rfl) (x_build (vs := []) (cs := [.slice none 0 0]) (by rfl) (by kernel_rfl)) ?_
  refine RL_pure (by exact wn0 rfl) (by rfl) (by rfl) (x_move (v := .int .i64 v12) (by rfl)) ?_
  refine RL_cons (O_store (i := 2) (off := 0) (by exact wn0 rfl) (by rfl) (by rfl) H (by rfl) (vs := [.slice none 0 0]) (by rfl) sz76 (by rfl) (by rfl) (by rfl) (fun w14 (H : Sep ok w w14 [.blk b5 76 [.slice A1 a0.Slots.length cp2], .blk b7 81 [.int .i64 a1.Slot, .int .i64 a1.Gen], .blk b9 76 [.slice none 0 0]] [RE.rd k_Slot A1 cp2 a0.Slots]) => ?_))
  refine RL_pure (by exact wn0 rfl) (by rfl) (by rfl) (x_assign (v := .int .i64 v12) (by rfl)) ?_
  refine RL_nil ?_
  refine W_ret ?_
  have H : Sep ok w w14 [.blk b5 76 [.slice A1 a0.Slots.length cp2], .blk b7 81 [.int .i64 a1.Slot, .int .i64 a1.Gen], .blk b9 76 [.slice none 0 0]] [RE.rd k_Slot A1 cp2 a0.Slots, RE.fr w.heap.size k_Slot none 0 ([])] := Sep.also H (re := RE.fr w.heap.size k_Slot none 0 ([])) (Rd.nil (by decide))
  obtain rfl := Option.some.inj hm
  exact ⟨[.agg #[.slice none 0 0], .int .i64 v12], (.cellA (by rfl) ag76 (H.cells (i := 2) (by rfl)) (by rfl) (.tmp (by rfl) rfl)), none, 0, rfl, (H.forgetAll).pick [1]⟩
 ·have hm := cond_f hb hm
  refine W_skip ?_
  refine W_seq ?_
  refine W_seq ?_
  refine W_region ?_
  refine RL_pure (by exact wn0 rfl) (by rfl) (by rfl) (x_loadA (j := 0) (vs := [.slice A1 a0.Slots.length cp2]) ag76 (by rfl) (H.cells (i := 0) (by rfl)) (by rfl) (by rfl)) ?_
  refine RL_pure (by exact wn0 rfl) (by rfl) (by rfl) (x_loadA (j := 0) (vs := [.int .i64 a1.Slot, .int .i64 a1.Gen]) ag81 (by rfl) (H.cells (i := 1) (by rfl)) (by rfl) (by rfl)) ?_
  obtain ⟨v17, hv16, hm⟩ := bind_some hm
  refine RL_cons (O_call (by exact wn0 rfl) (by rfl) (by rfl) (x_callL (by rfl) (args := [.agg #[.slice A1 a0.Slots.length cp2], .agg #[.int .i64 a1.Slot, .int .i64 a1.Gen]]) (by rfl) (cf120 _ _)) (c120 okT K w13 a0 A1 cp2 a1 (H.rd (i := 0) (by rfl)).any v17 hv16) ?_)
  rintro e w18 ⟨rfl, H2⟩
  have H : Sep ok w w18 [.blk b5 76 [.slice A1 a0.Slots.length cp2], .blk b7 81 [.int .i64 a1.Slot, .int .i64 a1.Gen], .blk b9 76 [.slice none 0 0]] [RE.rd k_Slot A1 cp2 a0.Slots] := H.below H2.base
  clear H2
  refine ⟨_, rfl, ?_⟩
  show RL _ _ _ _ _ _ _
  refine RL_pure (by exact wn0 rfl) (by rfl) (by rfl) (x_not (by rfl)) ?_
  refine RL_nil ?_
  refine W_cond (by rfl) (fun hb => ?_) (fun hb => ?_)
  ·have hm := cond_t hb hm
   refine W_seq ?_
   refine W_region ?_
   refine RL_pure (by exact wn0 rfl) (by rfl) (by rfl) (x_build (vs := []) (cs := [.slice none 0 0]) (by rfl) (by kernel_rfl)) ?_
   refine RL_cons (O_store (i := 2) (off := 0) (by exact wn0 rfl) (by rfl) (by rfl) H (by rfl) (vs := [.slice none 0 0]) (by rfl) sz76 (by rfl) (by rfl) (by rfl) (fun w19 (H : Sep ok w w19 [.blk b5 76 [.slice A1 a0.Slots.length cp2], .blk b7 81 [.int .i64 a1.Slot, .int .i64 a1.Gen], .blk b9 76 [.slice none 0 0]] [RE.rd k_Slot A1 cp2 a0.Slots]) => ?_))
   refine RL_pure (by exact wn0 rfl) (by rfl) (by rfl) (x_assign (v := .int .i64 50) (by rfl)) ?_
   refine RL_nil ?_
   refine W_ret ?_
   have H : Sep ok w w19 [.blk b5 76 [.slice A1 a0.Slots.length cp2], .blk b7 81 [.int .i64 a1.Slot, .int .i64 a1.Gen], .blk b9 76 [.slice none 0 0]] [RE.rd k_Slot A1 cp2 a0.Slots, RE.fr w.heap.size k_Slot none 0 ([])] := Sep.also H (re := RE.fr w.heap.size k_Slot none 0 ([])) (Rd.nil (by decide))
   obtain rfl := Option.some.inj hm
   exact ⟨[.agg #[.slice none 0 0], .int .i64 50], (.cellA (by rfl) ag76 (H.cells (i := 2) (by rfl)) (by rfl) (.tmp (by rfl) rfl)), none, 0, rfl, (H.forgetAll).pick [1]⟩
  ·have hm := cond_f hb hm
   refine W_skip ?_
   refine W_seq ?_
   refine W_region ?_
   refine RL_pure (by exact wn0 rfl) (by rfl) (by rfl) (x_loadA (j := 0) (vs := [.slice A1 a0.Slots.length cp2]) ag76 (by rfl) (H.cells (i := 0) (by rfl)) (by rfl) (by rfl)) ?_
   obtain ⟨v22, hv21, hm⟩ := bind_some hm
   refine RL_cons (O_call (by exact wn0 rfl) (by rfl) (by rfl) (x_callL (by rfl) (args := [.agg #[.slice A1 a0.Slots.length cp2]]) (by rfl) (cf102 _ _)) (c102 (okS ok w [.blk b5 76 [.slice A1 a0.Slots.length cp2], .blk b7 81 [.int .i64 a1.Slot, .int .i64 a1.Gen], .blk b9 76 [.slice none 0 0]]) K w18 a0 A1 cp2 (H.rd (i := 0) (by rfl)) v22 hv21) ?_)
   rintro e w23 ⟨A24, cp25, cs26, rfl, H2⟩
   have H : Sep ok w w23 [.blk b5 76 [.slice A1 a0.Slots.length cp2], .blk b7 81 [.int .i64 a1.Slot, .int .i64 a1.Gen], .blk b9 76 [.slice none 0 0], .row (.slice A24 v22.Slots.length cp25) 96 k_Slot.sz v22.Slots.length cs26] [RE.rd k_Slot A1 cp2 a0.Slots, RE.chunks k_Slot cs26 v22.Slots] := H.call H2
   clear H2
   refine ⟨_, rfl, ?_⟩
   show RL _ _ _ _ _ _ _
   refine RL_cons (O_store (i := 0) (off := 0) (by exact wn0 rfl) (by rfl) (by rfl) H (by rfl) (vs := [.slice A24 v22.Slots.length cp25]) (by rfl) sz76 (by rfl) (by rfl) (by rfl) (fun w29 (H : Sep ok w w29 [.blk b5 76 [.slice A24 v22.Slots.length cp25], .blk b7 81 [.int .i64 a1.Slot, .int .i64 a1.Gen], .blk b9 76 [.slice none 0 0], .row (.slice A24 v22.Slots.length cp25) 96 k_Slot.sz v22.Slots.length cs26] [RE.rd k_Slot A1 cp2 a0.Slots, RE.chunks k_Slot cs26 v22.Slots]) => ?_))
   refine RL_nil ?_
   refine W_seq ?_
   refine W_region ?_
   refine RL_pure (by exact wn0 rfl) (by rfl) (by rfl) (x_fieldAddr fo76_0 (by rfl)) ?_
   refine RL_pure (by exact wn0 rfl) (by rfl) (by rfl) (x_load (j := 0) (v := .slice A24 v22.Slots.length cp25) sc74 (by rfl) (H.cells (i := 0) (by rfl)) (by rfl)) ?_
   refine RL_pure (by exact wn0 rfl) (by rfl) (by rfl) (x_fieldAddr fo81_0 (by rfl)) ?_
   refine RL_pure (by exact wn0 rfl) (by rfl) (by rfl) (x_load (j := 0) (v := .int .i64 a1.Slot) sc3 (by rfl) (H.cells (i := 1) (by rfl)) (by rfl)) ?_
   obtain ⟨el30, h31, h32, he33, hm⟩ := idx_some hm
   obtain ⟨g35, _, hA34, _, _⟩ := H.rowIdx (i := 3) (j := 1) (by rfl) (by rfl) he33
   refine RL_pure (by exact wn0 rfl) (by rfl) (by rfl) (x_indexAddr sl74 sz96 (by rfl) (by rfl) hA34 h31 h32) ?_
   refine RL_pure (by exact wn0 rfl) (by rfl) (by rfl) (x_fieldAddr fo96_1 (by rfl)) ?_
   obtain ⟨l39, hl40, hm⟩ := lete_some hm
   refine RL_cons (O_storeRow (D := k_Slot) (i := 3) (j := 1) (off := 1) (m := a1.Slot) (a := el30) (b := (⟨el30.Gen, false⟩ : S_Slot)) (vs := [.bool false]) (by exact wn0 rfl) H (by rfl) (by rfl) hA34 (by rfl) (by rfl) he33 (by rfl) sz4 (by rfl) (by rfl) (by intro ce hce; obtain rfl := hce; rfl) hl40 (fun w37 cs38 (H : Sep ok w w37 [.blk b5 76 [.slice A24 v22.Slots.length cp25], .blk b7 81 [.int .i64 a1.Slot, .int .i64 a1.Gen], .blk b9 76 [.slice none 0 0], .row (.slice A24 l39.length cp25) 96 k_Slot.sz l39.length cs38] [RE.rd k_Slot A1 cp2 a0.Slots, RE.chunks k_Slot cs38 l39]) => ?_))
   refine RL_nil ?_
   have hn41 : v22.Slots.length = l39.length := by rw [← hl40]; exact (List.length_set ..).symm
   have H : Sep ok w w37 [.blk b5 76 [.slice A24 l39.length cp25], .blk b7 81 [.int .i64 a1.Slot, .int .i64 a1.Gen], .blk b9 76 [.slice none 0 0], .row (.slice A24 l39.length cp25) 96 k_Slot.sz l39.length cs38] [RE.rd k_Slot A1 cp2 a0.Slots, RE.chunks k_Slot cs38 l39] := by (try rw [hn41] at H); exact H
   refine W_regen (l := [(2, .pointer (some ⟨b5, 0, none⟩)), (4, .pointer (some ⟨b9, 0, none⟩))]) ⟨rfl, rfl, trivial⟩ fun r42 => ?_
   refine W_seq ?_
   refine W_region ?_
   refine RL_pure (by exact wn0 rfl) (by rfl) (by rfl) (x_loadA (j := 0) (vs := [.slice A24 l39.length cp25]) ag76 (by rfl) (H.cells (i := 0) (by rfl)) (by rfl) (by rfl)) ?_
   refine RL_cons (O_store (i := 2) (off := 0) (by exact wn0 rfl) (by rfl) (by rfl) H (by rfl) (vs := [.slice A24 l39.length cp25]) (by rfl) sz76 (by rfl) (by rfl) (by rfl) (fun w43 (H : Sep ok w w43 [.blk b5 76 [.slice A24 l39.length cp25], .blk b7 81 [.int .i64 a1.Slot, .int .i64 a1.Gen], .blk b9 76 [.slice A24 l39.length cp25], .row (.slice A24 l39.length cp25) 96 k_Slot.sz l39.length cs38] [RE.rd k_Slot A1 cp2 a0.Slots, RE.chunks k_Slot cs38 l39]) => ?_))
   refine RL_pure (by exact wn0 rfl) (by rfl) (by rfl) (x_assign (v := .int .i64 0) (by rfl)) ?_
   refine RL_nil ?_
   refine W_ret ?_
   have H : Sep ok w w43 [.blk b5 76 [.slice A24 l39.length cp25], .blk b7 81 [.int .i64 a1.Slot, .int .i64 a1.Gen], .blk b9 76 [.slice A24 l39.length cp25], .hole] [RE.rd k_Slot A1 cp2 a0.Slots, RE.fr w.heap.size k_Slot A24 cp25 l39] := H.frozenF hno (fun _ _ _ _ _ _ h => h) (i := 3) (j := 1) (by rfl) (by rfl)
   obtain rfl := Option.some.inj hm
   exact ⟨[.agg #[.slice A24 l39.length cp25], .int .i64 0], (.cellA (by rfl) ag76 (H.cells (i := 2) (by rfl)) (by rfl) (.tmp (by rfl) rfl)), A24, cp25, rfl, (H.forgetAll).pick [1]⟩
end Go.Proofs.YtobkigllalbkiaaV.M

/- A plain Lean function that answers as the Go function does (none: not told), and the proof that a call answers so. Written by program. -/
set_option linter.unusedVariables false
namespace Go.Proofs.YtobkigllalbkiaaV.M
open Go.RowKit Go.Proofs.YtobkigllalbkiaaV
/-- diorama/nodes.Kill$1 -/
def m85 (K : Nat) (a0 : S_Handle) (f0 : S_Handle) : Option (Bool) :=
 some ((a0.Slot == f0.Slot) && (a0.Gen == f0.Gen))
set_option maxRecDepth 100000 in
set_option maxHeartbeats 4000000 in
theorem c85 (ok : Okp) (K : Nat) (w : World) (a0 : S_Handle) (f0 : S_Handle) (g1 : Nat) (hF2 : (RE.cells g1 (0) [.int .i64 f0.Slot, .int .i64 f0.Gen]).rel w ok) (res : Bool) (hm : m85 K a0 f0 = some res) :
  Calls Try.prog 85 #[.agg #[.int .i64 a0.Slot, .int .i64 a0.Gen], .pointer (some ⟨g1, 0, none⟩)] w (fun e w' => e = .returned (tup [.bool res]) ∧ Sep ok w w' [] []) := by
 refine calls_W (args := [.agg #[.int .i64 a0.Slot, .int .i64 a0.Gen], .pointer (some ⟨g1, 0, none⟩)]) Try.func85 rfl Try.ntmps85 Try.results85 rfl fun r hr => ?_
 obtain ⟨r1, rfl⟩ := regen (r := r) [(0, .agg #[.int .i64 a0.Slot, .int .i64 a0.Gen]), (1, .pointer (some ⟨g1, 0, none⟩))] ⟨hr 0 _ rfl, hr 1 _ rfl, trivial⟩
 have H : Sep ok w w [] [RE.cells g1 (0) [.int .i64 f0.Slot, .int .i64 f0.Gen]] := Sep.arg (Sep.start ok w) (re := RE.cells g1 (0) [.int .i64 f0.Slot, .int .i64 f0.Gen]) rfl rfl hF2
 unfold m85 at hm
 refine W_seq ?_
 refine W_region ?_
 refine RL_cons (O_box (by exact wn0 rfl) (by rfl) (by rfl) (by rfl) H (fun w5 b4 (H : Sep ok w w5 [.blk b4 81 [.int .i64 a0.Slot, .int .i64 a0.Gen]] [RE.cells g1 (0) [.int .i64 f0.Slot, .int .i64 f0.Gen]]) => ?_))
 refine RL_pure (by exact wn0 rfl) (by rfl) (by rfl) (x_assign (v := .bool false) (by rfl)) ?_
 refine RL_nil ?_
 refine W_seq ?_
 refine W_region ?_
 refine RL_pure (by exact wn0 rfl) (by rfl) (by rfl) (x_loadA (j := 0) (vs := [.int .i64 a0.Slot, .int .i64 a0.Gen]) ag81 (by rfl) (H.cells (i := 0) (by rfl)) (by rfl) (by rfl)) ?_
 refine RL_pure (by exact wn0 rfl) (by rfl) (by rfl) (x_loadA (j := 0) (vs := [.int .i64 f0.Slot, .int .i64 f0.Gen]) ag81 (by rfl) (H.cellsR (i := 0) (by rfl)) (by rfl) (by rfl)) ?_
 refine RL_pure (by exact wn0 rfl) (by rfl) (by rfl) (x_eqls ep81 eg81 (by rfl) (by rfl) (b := ((a0.Slot == f0.Slot) && (a0.Gen == f0.Gen))) (by rfl)) ?_
 refine RL_pure (by exact wn0 rfl) (by rfl) (by rfl) (x_assign (v := .bool ((a0.Slot == f0.Slot) && (a0.Gen == f0.Gen))) (by rfl)) ?_
 refine RL_nil ?_
 refine W_ret ?_
 obtain rfl := Option.some.inj hm
 exact ⟨[.bool ((a0.Slot == f0.Slot) && (a0.Gen == f0.Gen))], (.tmp (by rfl) rfl), rfl, H.none_⟩
end Go.Proofs.YtobkigllalbkiaaV.M

/- A plain Lean function that answers as the Go function does (none: not told), and the proof that a call answers so. Written by program. -/
set_option linter.unusedVariables false
namespace Go.Proofs.YtobkigllalbkiaaV.M
open Go.RowKit Go.Proofs.YtobkigllalbkiaaV
theorem find_split {α : Type} (p : α → Bool) : ∀ l : List α, (l.findIdx? p = none → l.filter (fun x => !p x) = l) ∧ ∀ k, l.findIdx? p = some k → k < l.length ∧ (l.take (k + 1)).filter (fun x => !p x) = l.take k
 | [] => ⟨fun _ => rfl, fun k h => by simp at h⟩
 | x :: xs => by
  have ih := find_split p xs
  rw [List.findIdx?_cons]
  by_cases hx : p x = true
  ·refine ⟨fun h => by simp [hx] at h, fun k h => ?_⟩
   simp [hx] at h; subst h
   simp [hx]
  ·simp only [Bool.not_eq_true] at hx
   refine ⟨fun h => ?_, fun k h => ?_⟩
   ·simp [hx] at h
    simp only [List.filter_cons, hx, Bool.not_false, if_true]
    rw [ih.1 (by simpa [List.findIdx?_eq_none_iff] using h)]
   ·simp [hx] at h
    obtain ⟨m, hm, rfl⟩ := h
    have := ih.2 m hm
    refine ⟨by simp; omega, ?_⟩
    rw [List.take_succ_cons, List.take_succ_cons, List.filter_cons, this.2]
    simp [hx]
theorem anyS_pure {α : Type} (p : α → Bool) : ∀ (l : List α) (i : Int), anyS (fun (_ : Unit) x => some (p x, ())) () i l = some ((match l.findIdx? p with | some k => i + k | none => -1), ())
 | [], i => rfl
 | x :: xs, i => by
  unfold anyS
  rw [List.findIdx?_cons]
  by_cases hx : p x = true
  ·simp [hx]
  ·simp only [Bool.not_eq_true] at hx
   simp only [Option.bind_some, hx, cond_false, Bool.false_eq_true, if_false]
   rw [anyS_pure p xs (i + 1)]
   cases xs.findIdx? p with
   | none => rfl
   | some k =>
    have e : i + 1 + (k : Int) = i + ((k + 1 : Nat) : Int) := by omega
    exact congrArg (fun z => some (z, ())) e
def eqH (h x : S_Handle) : Bool := (x.Slot == h.Slot) && (x.Gen == h.Gen)
set_option maxRecDepth 100000 in
set_option maxHeartbeats 4000000 in
/-- slices.DeleteFunc, of a row that is handed over, with the test of Kill: all but a handle. -/
theorem c84 (ok : Okp) (K : Nat) (w0 w : World) (a0 : List S_Handle) (A : Option Addr) (c : Nat) (cs : List Value) (h : S_Handle) (g : Nat) (H : Sep ok w0 w [.row (.slice A a0.length c) 81 k_Handle.sz a0.length cs] [RE.chunks k_Handle cs a0, RE.cells g 0 [.int .i64 h.Slot, .int .i64 h.Gen]])
  (res : List S_Handle) (hres : a0.filter (fun x => !eqH h x) = res) :
  Calls Try.prog 84 #[.slice A a0.length c, .func (.func 85) #[] #[.pointer (some ⟨g, 0, none⟩)]] w (fun e w' => ∃ (A' : Option Addr) (c' : Nat) (cs' : List Value), e = .returned (tup [.slice A' res.length c']) ∧ Sep ok w0 w' [.row (.slice A' res.length c') 81 k_Handle.sz res.length cs'] [RE.chunks k_Handle cs' res]) := by
 refine calls_W (args := [.slice A a0.length c, .func (.func 85) #[] #[.pointer (some ⟨g, 0, none⟩)]]) Try.func84 rfl Try.ntmps84 Try.results84 rfl fun r hr => ?_
 obtain ⟨r1, rfl⟩ := regen (r := r) [(0, .slice A a0.length c), (1, .func (.func 85) #[] #[.pointer (some ⟨g, 0, none⟩)])] ⟨hr 0 _ rfl, hr 1 _ rfl, trivial⟩
 obtain ⟨hac, hA⟩ := H.rowForm (i := 0) (by rfl)
 have hmx : c ≤ 9223372036854775807 := by
  rcases hA with ⟨_, _, rfl⟩ | ⟨g', rfl⟩
  ·omega
  ·obtain ⟨_, _, _, _, hcm, _⟩ := H.rowRaw (i := 0) (by rfl)
   simp only [maxLen] at hcm; omega
 have hcell : ∀ {wS : World} {l : List S_Handle} {cs' : List Value} {L : List Ent}, Sep ok w0 wS L [RE.chunks k_Handle cs' l, RE.cells g 0 [.int .i64 h.Slot, .int .i64 h.Gen]] → (RE.cells g 0 [.int .i64 h.Slot, .int .i64 h.Gen]).rel wS okT := by
  intro wS l cs' L H
  have hq : (RE.cells g 0 [.int .i64 h.Slot, .int .i64 h.Gen]).rel wS _ := H.rds 1 _ (by rfl)
  obtain ⟨⟨ob, ho, _⟩, hc⟩ := hq
  exact ⟨⟨ob, ho, trivial⟩, hc⟩
 refine W_seq ?_
 refine W_region ?_
 refine RL_pure (by exact wn0 rfl) (by rfl) (by rfl) (x_assign (v := .slice none 0 0) (by rfl)) ?_
 refine RL_nil ?_
 refine W_seq ?_
 refine W_region ?_
 refine RL_pure (by exact wn0 rfl) (by rfl) (by rfl) (x_move (v := .slice A a0.length c) (by rfl)) ?_
 refine RL_pure (by exact wn0 rfl) (by rfl) (by rfl) (x_move (v := .func (.func 85) #[] #[.pointer (some ⟨g, 0, none⟩)]) (by rfl)) ?_
 refine RL_cons (O_call (by exact wn0 rfl) (by rfl) (by rfl) (x_callL (by rfl) (args := [.slice A a0.length c, .func (.func 85) #[] #[.pointer (some ⟨g, 0, none⟩)]]) (by rfl) (cf121 _ _))
  (c121 (fun (_ : Unit) wS => Sep ok w0 wS [.row (.slice A a0.length c) 81 k_Handle.sz a0.length cs] [RE.chunks k_Handle cs a0, RE.cells g 0 [.int .i64 h.Slot, .int .i64 h.Gen]]) (fun (_ : Unit) x => some (eqH h x, ())) 85 [] [.pointer (some ⟨g, 0, none⟩)] a0 A c
   (fun _ wS (H : Sep ok w0 wS [.row (.slice A a0.length c) 81 k_Handle.sz a0.length cs] [RE.chunks k_Handle cs a0, RE.cells g 0 [.int .i64 h.Slot, .int .i64 h.Gen]]) => H.rowRd (i := 0) (j := 0) (by rfl) (by rfl)) cf85
   (fun _ wS x q (H : Sep ok w0 wS [.row (.slice A a0.length c) 81 k_Handle.sz a0.length cs] [RE.chunks k_Handle cs a0, RE.cells g 0 [.int .i64 h.Slot, .int .i64 h.Gen]]) hq => by
    obtain rfl := Option.some.inj hq
    exact (c85 okT K wS x h g (hcell H) (eqH h x) rfl).mono fun e w_ h => ⟨h.1, H.below h.2.base⟩) () w H _ (anyS_pure (eqH h) a0 0)) ?_)
 rintro e w2 ⟨rfl, H⟩
 have H : Sep ok w0 w2 [.row (.slice A a0.length c) 81 k_Handle.sz a0.length cs] [RE.chunks k_Handle cs a0, RE.cells g 0 [.int .i64 h.Slot, .int .i64 h.Gen]] := H
 obtain ⟨hn0, hsplit⟩ := find_split (eqH h) a0
 obtain ⟨q, hq⟩ : ∃ q : Int, q = (match a0.findIdx? (eqH h) with | some k => 0 + (k : Int) | none => -1) := ⟨_, rfl⟩
 rw [← hq]
 refine ⟨_, rfl, ?_⟩
 show RL _ _ _ _ _ _ _
 refine RL_pure (by exact wn0 rfl) (by rfl) (by rfl) (x_assign (v := .int .i64 q) (by rfl)) ?_
 refine RL_nil ?_
 refine W_seq ?_
 refine W_seq ?_
 refine W_region ?_
 refine RL_pure (by exact wn0 rfl) (by rfl) (by rfl) (x_move (v := .int .i64 q) (by rfl)) ?_
 refine RL_pure (by exact wn0 rfl) (by rfl) (by rfl) (x_eql (by rfl) (by rfl)) ?_
 refine RL_nil ?_
 refine W_cond (by rfl) (fun hb => ?_) (fun hb => ?_)
 ·have hq1 : q = -1 := by simpa using hb
  have hnone : a0.findIdx? (eqH h) = none := by
   cases hf : a0.findIdx? (eqH h) with
   | none => rfl
   | some k => rw [hf] at hq; simp at hq; omega
  have hra : res = a0 := by rw [← hres]; exact hn0 hnone
  subst hra
  refine W_seq ?_
  refine W_region ?_
  refine RL_pure (by exact wn0 rfl) (by rfl) (by rfl) (x_move (v := .slice A res.length c) (by rfl)) ?_
  refine RL_pure (by exact wn0 rfl) (by rfl) (by rfl) (x_assign (v := .slice A res.length c) (by rfl)) ?_
  refine RL_nil ?_
  refine W_ret ?_
  exact ⟨[.slice A res.length c], (.tmp (by rfl) rfl), A, c, cs, rfl, H.pick [0]⟩
 have hq1 : q ≠ -1 := by simpa using hb
 obtain ⟨k0, hf⟩ : ∃ k0, a0.findIdx? (eqH h) = some k0 := by
  cases hf : a0.findIdx? (eqH h) with
  | none => rw [hf] at hq; exact absurd hq hq1
  | some k => exact ⟨k, rfl⟩
 obtain ⟨hk0, hpre⟩ := hsplit k0 hf
 have hqk : q = (k0 : Int) := by rw [hq, hf]; simp
 subst hqk
 refine W_skip ?_
 refine W_seq ?_
 refine W_seq ?_
 refine W_region ?_
 have hw1 : IntKind.i64.wrap ((k0 : Int) + 1) = ((k0 + 1 : Nat) : Int) := by rw [wrap_i64_in (by omega)]; push_cast; rfl
 refine RL_pure (by exact wn0 rfl) (by rfl) (by rfl) (x_move (v := .int .i64 (k0 : Int)) (by rfl)) ?_
 refine RL_pure (by exact wn0 rfl) (by rfl) (by rfl) (x_add (by rfl) (by rfl) hw1) ?_
 refine RL_pure (by exact wn0 rfl) (by rfl) (by rfl) (x_assign (v := .int .i64 ((k0 + 1 : Nat) : Int)) (by rfl)) ?_
 refine RL_nil ?_
 refine W_block ?_
 refine W_loop (fun k r' w' => ∃ (l : List S_Handle) (i j : Nat) (cs' : List Value), l.length = a0.length ∧ i < j ∧ j ≤ a0.length ∧ a0.length < j + k ∧ l.take i = (a0.take j).filter (fun x => !eqH h x) ∧ l.drop j = a0.drop j ∧
  Agr [(0, .slice A l.length c), (1, .func (.func 85) #[] #[.pointer (some ⟨g, 0, none⟩)]), (5, .int .i64 (i : Int)), (6, .int .i64 (j : Int))] r' ∧ Sep ok w0 w' [.row (.slice A l.length c) 81 k_Handle.sz l.length cs'] [RE.chunks k_Handle cs' l, RE.cells g 0 [.int .i64 h.Slot, .int .i64 h.Gen]]) (a0.length + 1) ?_ ?_
 ·exact ⟨a0, k0, k0 + 1, cs, rfl, by omega, by omega, by omega, hpre.symm, rfl, ⟨rfl, rfl, rfl, rfl, trivial⟩, H⟩
 rintro k r' w' ⟨l, i, j, cs', hll, hij, hj, hjk, htk, hdr, hAg, H⟩
 obtain ⟨r5, rfl⟩ := regen _ hAg; clear hAg
 obtain ⟨w6, rfl⟩ : ∃ W : World, W = w' := ⟨_, rfl⟩
 refine W_seq ?_
 refine W_seq ?_
 refine W_region ?_
 refine RL_pure (by exact wn0 rfl) (by rfl) (by rfl) (x_move (v := .int .i64 (j : Int)) (by rfl)) ?_
 refine RL_pure (by exact wn0 rfl) (by rfl) (by rfl) (x_move (v := .slice A l.length c) (by rfl)) ?_
 refine RL_pure (by exact wn0 rfl) (by rfl) (by rfl) (x_len sl87 (by rfl)) ?_
 refine RL_pure (by exact wn0 rfl) (by rfl) (by rfl) (x_lss (by rfl) (by rfl)) ?_
 refine RL_nil ?_
 refine W_cond (by rfl) (fun hb => ?_) (fun hb => ?_)
 ·have hlt : j < l.length := by have := of_decide_eq_true hb; omega
  have he : l[((j : Int)).toNat]? = some l[j] := by simp
  have hxa : a0[j]? = some l[j] := by
   have h1 : (l.drop j)[0]? = (a0.drop j)[0]? := by rw [hdr]
   simpa [List.getElem?_drop, hlt] using h1.symm
  have hdj : ∀ y, (l.set i y).drop (j + 1) = a0.drop (j + 1) := fun y => by
   rw [List.drop_set_of_lt (by omega)]
   have h1 : (l.drop j).drop 1 = (a0.drop j).drop 1 := by rw [hdr]
   simpa [List.drop_drop, Nat.add_comm] using h1
  have hdj0 : l.drop (j + 1) = a0.drop (j + 1) := by
   have h1 : (l.drop j).drop 1 = (a0.drop j).drop 1 := by rw [hdr]
   simpa [List.drop_drop, Nat.add_comm] using h1
  generalize l[j] = x at he hxa
  have hta : a0.take (j + 1) = a0.take j ++ [x] := by rw [List.take_add_one, hxa]; rfl
  have hw2 : IntKind.i64.wrap ((j : Int) + 1) = ((j + 1 : Nat) : Int) := by rw [wrap_i64_in (by omega)]; push_cast; rfl
  refine W_skip ?_
  refine W_seq ?_
  refine W_block ?_
  refine W_seq ?_
  refine W_region ?_
  refine RL_pure (by exact wn0 rfl) (by rfl) (by rfl) (x_move (v := .slice A l.length c) (by rfl)) ?_
  refine RL_pure (by exact wn0 rfl) (by rfl) (by rfl) (x_move (v := .int .i64 (j : Int)) (by rfl)) ?_
  obtain ⟨gr, _, hAr, _, _⟩ := H.rowIdx (i := 0) (j := 0) (by rfl) (by rfl) he
  refine RL_pure (by exact wn0 rfl) (by rfl) (by rfl) (x_indexAddr sl87 sz81 (by rfl) (by rfl) hAr (by omega) (by omega)) ?_
  refine RL_pure (by exact wn0 rfl) (by rfl) (by rfl) (x_loadA (j := 0) (vs := [.int .i64 x.Slot, .int .i64 x.Gen]) ag81 (by rfl) (H.rowFlatAt (n := 2) (i := 0) (j := 0) (by rfl) (by rfl) hAr he) (by rfl) (by rfl)) ?_
  refine RL_cons (O_alloc (by exact wn0 rfl) (by rfl) ze81 (by rfl) H (fun w8 b8 (H : Sep ok w0 w8 [.row (.slice A l.length c) 81 k_Handle.sz l.length cs', .blk b8 81 [.int .i64 0, .int .i64 0]] [RE.chunks k_Handle cs' l, RE.cells g 0 [.int .i64 h.Slot, .int .i64 h.Gen]]) => ?_))
  refine RL_cons (O_store (i := 1) (off := 0) (by exact wn0 rfl) (by rfl) (by rfl) H (by rfl) (vs := [.int .i64 x.Slot, .int .i64 x.Gen]) (by rfl) sz81 (by rfl) (by rfl) (by rfl) (fun w9 (H : Sep ok w0 w9 [.row (.slice A l.length c) 81 k_Handle.sz l.length cs', .blk b8 81 [.int .i64 x.Slot, .int .i64 x.Gen]] [RE.chunks k_Handle cs' l, RE.cells g 0 [.int .i64 h.Slot, .int .i64 h.Gen]]) => ?_))
  refine RL_nil ?_
  refine W_seq ?_
  refine W_region ?_
  refine RL_pure (by exact wn0 rfl) (by rfl) (by rfl) (x_move (v := .func (.func 85) #[] #[.pointer (some ⟨g, 0, none⟩)]) (by rfl)) ?_
  refine RL_pure (by exact wn0 rfl) (by rfl) (by rfl) (x_loadA (j := 0) (vs := [.int .i64 x.Slot, .int .i64 x.Gen]) ag81 (by rfl) (H.cells (i := 1) (by rfl)) (by rfl) (by rfl)) ?_
  refine RL_cons (O_call (by exact wn0 rfl) (by rfl) (by rfl) (x_callL (by rfl) (args := [.agg #[.int .i64 x.Slot, .int .i64 x.Gen], .pointer (some ⟨g, 0, none⟩)]) (by rfl) (cf85 _ _)) (c85 okT K w9 x h g (hcell H) (eqH h x) rfl) ?_)
  rintro e w10 ⟨rfl, H2⟩
  have H : Sep ok w0 w10 [.row (.slice A l.length c) 81 k_Handle.sz l.length cs', .blk b8 81 [.int .i64 x.Slot, .int .i64 x.Gen]] [RE.chunks k_Handle cs' l, RE.cells g 0 [.int .i64 h.Slot, .int .i64 h.Gen]] := H.below H2.base
  clear H2
  refine ⟨_, rfl, ?_⟩
  show RL _ _ _ _ _ _ _
  refine RL_pure (by exact wn0 rfl) (by rfl) (by rfl) (x_not (by rfl)) ?_
  refine RL_nil ?_
  refine W_cond (by rfl) (fun hb2 => ?_) (fun hb2 => ?_)
  ·have hk : (!eqH h x) = true := hb2
   refine W_seq ?_
   refine W_region ?_
   refine RL_pure (by exact wn0 rfl) (by rfl) (by rfl) (x_move (v := .slice A l.length c) (by rfl)) ?_
   refine RL_pure (by exact wn0 rfl) (by rfl) (by rfl) (x_move (v := .int .i64 (i : Int)) (by rfl)) ?_
   refine RL_pure (by exact wn0 rfl) (by rfl) (by rfl) (x_loadA (j := 0) (vs := [.int .i64 x.Slot, .int .i64 x.Gen]) ag81 (by rfl) (H.cells (i := 1) (by rfl)) (by rfl) (by rfl)) ?_
   have hei : l[((i : Int)).toNat]? = some (l[i]'(by omega)) := by simp
   generalize l[i]'(by omega) = y at hei
   obtain ⟨gi, _, hAi, _, _⟩ := H.rowIdx (i := 0) (j := 0) (by rfl) (by rfl) hei
   refine RL_pure (by exact wn0 rfl) (by rfl) (by rfl) (x_indexAddr sl87 sz81 (by rfl) (by rfl) hAi (by omega) (by omega)) ?_
   obtain ⟨l2, hl2⟩ : ∃ l2, l.set ((i : Int)).toNat x = l2 := ⟨_, rfl⟩
   refine RL_cons (O_storeRow (D := k_Handle) (i := 0) (j := 0) (off := 0) (m := (i : Int)) (a := y) (b := x) (vs := [.int .i64 x.Slot, .int .i64 x.Gen]) (by exact wn0 rfl) H (by rfl) (by rfl) hAi (by rfl) (by rfl) hei (by rfl) sz81 (by rfl) (by rfl) (by intro ce hce; obtain rfl := hce; rfl) hl2 (fun w11 cs3 (H : Sep ok w0 w11 [.row (.slice A l2.length c) 81 k_Handle.sz l2.length cs3, .blk b8 81 [.int .i64 x.Slot, .int .i64 x.Gen]] [RE.chunks k_Handle cs3 l2, RE.cells g 0 [.int .i64 h.Slot, .int .i64 h.Gen]]) => ?_))
   refine RL_nil ?_
   refine W_region ?_
   have hw3 : IntKind.i64.wrap ((i : Int) + 1) = ((i + 1 : Nat) : Int) := by rw [wrap_i64_in (by omega)]; push_cast; rfl
   refine RL_pure (by exact wn0 rfl) (by rfl) (by rfl) (x_move (v := .int .i64 (i : Int)) (by rfl)) ?_
   refine RL_pure (by exact wn0 rfl) (by rfl) (by rfl) (x_add (by rfl) (by rfl) hw3) ?_
   refine RL_pure (by exact wn0 rfl) (by rfl) (by rfl) (x_assign (v := .int .i64 ((i + 1 : Nat) : Int)) (by rfl)) ?_
   refine RL_nil ?_
   refine W_region ?_
   refine RL_pure (by exact wn0 rfl) (by rfl) (by rfl) (x_move (v := .int .i64 (j : Int)) (by rfl)) ?_
   refine RL_pure (by exact wn0 rfl) (by rfl) (by rfl) (x_add (by rfl) (by rfl) hw2) ?_
   refine RL_pure (by exact wn0 rfl) (by rfl) (by rfl) (x_assign (v := .int .i64 ((j + 1 : Nat) : Int)) (by rfl)) ?_
   refine RL_nil ?_
   simp only [Int.toNat_natCast] at hl2
   have hlen2 : l2.length = l.length := by rw [← hl2, List.length_set]
   refine ⟨k - 1, by omega, l2, i + 1, j + 1, cs3, by omega, by omega, by omega, by omega, ?_, by rw [← hl2]; exact hdj x, ⟨by rw [hlen2]; rfl, rfl, rfl, rfl, trivial⟩, H.takeL 1⟩
   rw [hta, List.filter_append, ← htk, ← hl2]
   have hi2 : i < (l.set i x).length := by rw [List.length_set]; omega
   rw [List.take_add_one, List.getElem?_set_self (by omega), List.take_set_of_le (Nat.le_refl _)]
   simp [hk]
  ·have hk : (!eqH h x) = false := hb2
   refine W_skip ?_
   refine W_region ?_
   refine RL_pure (by exact wn0 rfl) (by rfl) (by rfl) (x_move (v := .int .i64 (j : Int)) (by rfl)) ?_
   refine RL_pure (by exact wn0 rfl) (by rfl) (by rfl) (x_add (by rfl) (by rfl) hw2) ?_
   refine RL_pure (by exact wn0 rfl) (by rfl) (by rfl) (x_assign (v := .int .i64 ((j + 1 : Nat) : Int)) (by rfl)) ?_
   refine RL_nil ?_
   refine ⟨k - 1, by omega, l, i, j + 1, cs', by omega, by omega, by omega, by omega, ?_, hdj0, ⟨rfl, rfl, rfl, rfl, trivial⟩, H.takeL 1⟩
   rw [hta, List.filter_append, ← htk]
   simp [hk]
 ·have hge : ¬ j < l.length := by have := of_decide_eq_false hb; omega
  have hjn : j = a0.length := by omega
  have hlr : l.take i = res := by rw [htk, hjn, List.take_length, hres]
  have hrl : res.length = i := by rw [← hlr, List.length_take]; omega
  refine W_exit ?_
  refine W_seq ?_
  refine W_region ?_
  refine RL_pure (by exact wn0 rfl) (by rfl) (by rfl) (x_move (v := .slice A l.length c) (by rfl)) ?_
  refine RL_pure (by exact wn0 rfl) (by rfl) (by rfl) (x_move (v := .int .i64 (i : Int)) (by rfl)) ?_
  refine RL_pure (by exact wn0 rfl) (by rfl) (by rfl) (x_slice_lo (sz := k_Handle.sz) (A := A) (n := l.length) (c := c) (k := .i64) (j := (i : Int)) sl87 sz81 (by rfl) (by rfl) (by omega) (by omega)) ?_
  have H := H.rowShrink (i := 0) (j := 0) (m := i) (by rfl) (by rfl) hlr (by omega)
  have H : Sep ok w0 w6 [.row (.slice A res.length c) 81 k_Handle.sz res.length (cs'.take (i * k_Handle.sz))] [RE.chunks k_Handle (cs'.take (i * k_Handle.sz)) res, RE.cells g 0 [.int .i64 h.Slot, .int .i64 h.Gen]] := H
  refine RL_cons (O_clearPast (D := k_Handle) (i := 0) (j := 0) (xs := res) (A := A) (lo := i) (x0 := (⟨0, 0⟩ : S_Handle)) (by exact wn0 rfl) (by rfl) rfl H (by rfl) (by rfl) (by omega) (by simp only [Int.toNat_natCast]; omega) sl87 ze81 (by rfl) (fun _ _ => rfl) (fun w7 (H : Sep ok w0 w7 [.row (.slice A res.length c) 81 k_Handle.sz res.length (cs'.take (i * k_Handle.sz))] [RE.chunks k_Handle (cs'.take (i * k_Handle.sz)) res, RE.cells g 0 [.int .i64 h.Slot, .int .i64 h.Gen]]) => ?_))
  refine RL_nil ?_
  refine W_seq ?_
  refine W_region ?_
  refine RL_pure (by exact wn0 rfl) (by rfl) (by rfl) (x_move (v := .slice A l.length c) (by rfl)) ?_
  refine RL_pure (by exact wn0 rfl) (by rfl) (by rfl) (x_move (v := .int .i64 (i : Int)) (by rfl)) ?_
  refine RL_pure (by exact wn0 rfl) (by rfl) (by rfl) (x_slice_hi (sz := k_Handle.sz) (A := A) (n := l.length) (c := c) (k := .i64) (j := (i : Int)) sl87 sz81 (by rfl) (by rfl) (by omega) (by omega)) ?_
  have hA0 : slA A c 0 k_Handle.sz = A := (H.rowA0 (i := 0) (by rfl)).symm
  rw [hA0, Int.toNat_natCast, ← hrl]
  refine RL_pure (by exact wn0 rfl) (by rfl) (by rfl) (x_assign (v := .slice A res.length c) (by rfl)) ?_
  refine RL_nil ?_
  refine W_ret ?_
  exact ⟨[.slice A res.length c], (.tmp (by rfl) rfl), A, c, _, rfl, H.pick [0]⟩
end Go.Proofs.YtobkigllalbkiaaV.M

/- A plain Lean function that answers as the Go function does (none: not told), and the proof that a call answers so. Written by program. -/
set_option linter.unusedVariables false
namespace Go.Proofs.YtobkigllalbkiaaV.M
open Go.RowKit Go.Proofs.YtobkigllalbkiaaV
theorem set_filter {α : Type} {l : List (List α)} {i : Nat} {x : List α} (F : List α → List α) (h : l[i]? = some x) : ((l.take i).map F ++ l.drop i).set i (F x) = (l.take (i + 1)).map F ++ l.drop (i + 1) := by
 have hi : i < l.length := (List.getElem?_eq_some_iff.1 h).1
 have hx : l[i] = x := (List.getElem?_eq_some_iff.1 h).2
 rw [List.set_append_right _ _ (by simp; omega), List.drop_eq_getElem_cons hi, List.take_succ_eq_append_getElem hi, hx]
 simp only [List.length_map, List.length_take, Nat.min_eq_left (Nat.le_of_lt hi), Nat.sub_self, List.set_cons_zero, List.map_append, List.map_cons, List.map_nil, List.append_assoc, List.cons_append, List.nil_append]
/-- Kill, behind its call of Twin -/
def tl40 (K : Nat) (a0 : S_Graph) (a1 : S_Handle) : Option (S_Graph × Int) :=
 (m53 K a0).bind fun v => (m83 K v.Arena a1).bind fun v2 => if 0 ≤ a1.Slot ∧ a1.Slot < (v.Kids.length : Int) ∧ v.Kids.length < 9223372036854775807 then some ((⟨v2.1, (v.Kids.set a1.Slot.toNat []).map (fun l => l.filter fun x => !eqH a1 x)⟩ : S_Graph), 0) else none
/-- diorama/nodes.Kill -/
def m40 (K : Nat) (a0 : S_Graph) (a1 : S_Handle) : Option (S_Graph × Int) :=
 ((m79 K a0 ([a1])).bind fun v20 => (bif (v20 != 0) then some ((⟨(⟨[]⟩ : S_Arena), []⟩ : S_Graph), v20) else (tl40 K a0 a1)))
set_option maxRecDepth 100000 in
set_option maxHeartbeats 4000000 in
theorem c40n (ok : Okp) (hno : ∀ k, ¬ ok.wr k) (K : Nat) (w : World) (a0 : S_Graph) (A1 : Option Addr) (cp2 : Nat) (A5 : Option Addr) (cp6 : Nat) (a1 : S_Handle) (hR3 : Rd k_Slot w ok A1 cp2 a0.Arena.Slots) (hR7 : Rd (Kd.slice k_Handle) w ok A5 cp6 a0.Kids) (res : S_Graph × Int) (hm : m40 K a0 a1 = some res) :
  Calls Try.prog 40 #[.agg #[.slice A1 a0.Arena.Slots.length cp2, .slice A5 a0.Kids.length cp6], .agg #[.int .i64 a1.Slot, .int .i64 a1.Gen]] w (fun e w' => ∃ (A0_ : Option Addr) (c0_ : Nat), ∃ (A1_ : Option Addr) (c1_ : Nat), e = .returned (tup [.agg #[.slice A0_ res.1.Arena.Slots.length c0_, .slice A1_ res.1.Kids.length c1_], .int .i64 res.2]) ∧ Sep ok w w' [] [RE.fr w.heap.size k_Slot A0_ c0_ res.1.Arena.Slots, RE.fr w.heap.size (Kd.slice k_Handle) A1_ c1_ res.1.Kids]) := by
 refine calls_W (args := [.agg #[.slice A1 a0.Arena.Slots.length cp2, .slice A5 a0.Kids.length cp6], .agg #[.int .i64 a1.Slot, .int .i64 a1.Gen]]) Try.func40 rfl Try.ntmps40 Try.results40 rfl fun r hr => ?_
 obtain ⟨r1, rfl⟩ := regen (r := r) [(0, .agg #[.slice A1 a0.Arena.Slots.length cp2, .slice A5 a0.Kids.length cp6]), (1, .agg #[.int .i64 a1.Slot, .int .i64 a1.Gen])] ⟨hr 0 _ rfl, hr 1 _ rfl, trivial⟩
 have H : Sep ok w w [] [RE.rd k_Slot A1 cp2 a0.Arena.Slots, RE.rd (Kd.slice k_Handle) A5 cp6 a0.Kids] := Sep.arg (Sep.arg (Sep.start ok w) (re := RE.rd k_Slot A1 cp2 a0.Arena.Slots) rfl rfl hR3) (re := RE.rd (Kd.slice k_Handle) A5 cp6 a0.Kids) rfl rfl hR7
 unfold m40 at hm
 refine W_seq ?_
 refine W_region ?_
 refine RL_cons (O_box (by exact wn0 rfl) (by rfl) (by rfl) (by rfl) H (fun w10 b9 (H : Sep ok w w10 [.blk b9 79 [.slice A1 a0.Arena.Slots.length cp2, .slice A5 a0.Kids.length cp6]] [RE.rd k_Slot A1 cp2 a0.Arena.Slots, RE.rd (Kd.slice k_Handle) A5 cp6 a0.Kids]) => ?_))
 refine RL_cons (O_box (by exact wn0 rfl) (by rfl) (by rfl) (by rfl) H (fun w12 b11 (H : Sep ok w w12 [.blk b9 79 [.slice A1 a0.Arena.Slots.length cp2, .slice A5 a0.Kids.length cp6], .blk b11 81 [.int .i64 a1.Slot, .int .i64 a1.Gen]] [RE.rd k_Slot A1 cp2 a0.Arena.Slots, RE.rd (Kd.slice k_Handle) A5 cp6 a0.Kids]) => ?_))
 refine RL_cons (O_alloc (by exact wn0 rfl) (by rfl) ze79 (by rfl) H (fun w14 b13 (H : Sep ok w w14 [.blk b9 79 [.slice A1 a0.Arena.Slots.length cp2, .slice A5 a0.Kids.length cp6], .blk b11 81 [.int .i64 a1.Slot, .int .i64 a1.Gen], .blk b13 79 [.slice none 0 0, .slice none 0 0]] [RE.rd k_Slot A1 cp2 a0.Arena.Slots, RE.rd (Kd.slice k_Handle) A5 cp6 a0.Kids]) => ?_))
 refine RL_pure (by exact wn0 rfl) (by rfl) (by rfl) (x_assign (v := .int .i64 0) (by rfl)) ?_
 refine RL_nil ?_
 refine W_seq ?_
 refine W_seq ?_
 refine W_region ?_
 refine RL_pure (by exact wn0 rfl) (by rfl) (by rfl) (x_loadA (j := 0) (vs := [.slice A1 a0.Arena.Slots.length cp2, .slice A5 a0.Kids.length cp6]) ag79 (by rfl) (H.cells (i := 0) (by rfl)) (by rfl) (by rfl)) ?_
 refine RL_pure (by exact wn0 rfl) (by rfl) (by rfl) (x_loadA (j := 0) (vs := [.int .i64 a1.Slot, .int .i64 a1.Gen]) ag81 (by rfl) (H.cells (i := 1) (by rfl)) (by rfl) (by rfl)) ?_
 refine RL_cons (O_buildSlice (vs := [(0, .agg #[.int .i64 a1.Slot, .int .i64 a1.Gen])]) (cs := [.int .i64 a1.Slot, .int .i64 a1.Gen]) (by exact wn0 rfl) (by rfl) sl87 sz81 ze81 (by rfl) (by rfl) (by rfl) (by kernel_rfl) H (fun w16 b15 (H : Sep ok w w16 [.blk b9 79 [.slice A1 a0.Arena.Slots.length cp2, .slice A5 a0.Kids.length cp6], .blk b11 81 [.int .i64 a1.Slot, .int .i64 a1.Gen], .blk b13 79 [.slice none 0 0, .slice none 0 0], .blk b15 81 [.int .i64 a1.Slot, .int .i64 a1.Gen]] [RE.rd k_Slot A1 cp2 a0.Arena.Slots, RE.rd (Kd.slice k_Handle) A5 cp6 a0.Kids]) => ?_))
 have H : Sep ok w w16 [.blk b9 79 [.slice A1 a0.Arena.Slots.length cp2, .slice A5 a0.Kids.length cp6], .blk b11 81 [.int .i64 a1.Slot, .int .i64 a1.Gen], .blk b13 79 [.slice none 0 0, .slice none 0 0], .row (.slice (some ⟨b15, 0, none⟩) ([a1]).length 1) 81 k_Handle.sz ([a1]).length [.int .i64 a1.Slot, .int .i64 a1.Gen]] [RE.rd k_Slot A1 cp2 a0.Arena.Slots, RE.rd (Kd.slice k_Handle) A5 cp6 a0.Kids, RE.chunks k_Handle [.int .i64 a1.Slot, .int .i64 a1.Gen] ([a1])] := H.rowOf (i := 3) (D := k_Handle) (xs := [a1]) (by rfl) (by exact ⟨rfl, rfl⟩) (by rfl)
 obtain ⟨v20, hv19, hm⟩ := bind_some hm
 refine RL_cons (O_call (by exact wn0 rfl) (by rfl) (by rfl) (x_callL (by rfl) (args := [.agg #[.slice A1 a0.Arena.Slots.length cp2, .slice A5 a0.Kids.length cp6], .slice (some ⟨b15, 0, none⟩) ([a1]).length 1]) (by rfl) (cf79 _ _)) (c79 okT K w16 a0 A1 cp2 A5 cp6 ([a1]) (some ⟨b15, 0, none⟩) 1 (H.rd (i := 0) (by rfl)).any (H.rd (i := 1) (by rfl)).any (H.rowRd (i := 3) (j := 2) (by rfl) (by rfl)) v20 hv19) ?_)
 rintro e w21 ⟨rfl, H2⟩
 have H : Sep ok w w21 [.blk b9 79 [.slice A1 a0.Arena.Slots.length cp2, .slice A5 a0.Kids.length cp6], .blk b11 81 [.int .i64 a1.Slot, .int .i64 a1.Gen], .blk b13 79 [.slice none 0 0, .slice none 0 0], .row (.slice (some ⟨b15, 0, none⟩) ([a1]).length 1) 81 k_Handle.sz ([a1]).length [.int .i64 a1.Slot, .int .i64 a1.Gen]] [RE.rd k_Slot A1 cp2 a0.Arena.Slots, RE.rd (Kd.slice k_Handle) A5 cp6 a0.Kids, RE.chunks k_Handle [.int .i64 a1.Slot, .int .i64 a1.Gen] ([a1])] := H.below H2.base
 clear H2
 refine ⟨_, rfl, ?_⟩
 show RL _ _ _ _ _ _ _
 refine RL_pure (by exact wn0 rfl) (by rfl) (by rfl) (x_assign (v := .int .i64 v20) (by rfl)) ?_
 refine RL_nil ?_
 refine W_seq ?_
 refine W_region ?_
 refine RL_pure (by exact wn0 rfl) (by rfl) (by rfl) (x_move (v := .int .i64 v20) (by rfl)) ?_
 refine RL_pure (by exact wn0 rfl) (by rfl) (by rfl) (x_neq (by rfl) (by rfl)) ?_
 refine RL_nil ?_
 refine W_cond (by rfl) (fun hb => ?_) (fun hb => ?_)
 ·have hm := cond_t hb hm
  refine W_seq ?_
  refine W_region ?_
  refine RL_pure (by exact wn0 rfl) (by rfl) (by rfl) (x_build (vs := []) (cs := [.slice none 0 0, .slice none 0 0]) (by rfl) (by kernel_rfl)) ?_
  refine RL_pure (by exact wn0 rfl) (by rfl) (by rfl) (x_move (v := .int .i64 v20) (by rfl)) ?_
  refine RL_cons (O_store (i := 2) (off := 0) (by exact wn0 rfl) (by rfl) (by rfl) H (by rfl) (vs := [.slice none 0 0, .slice none 0 0]) (by rfl) sz79 (by rfl) (by rfl) (by rfl) (fun w22 (H : Sep ok w w22 [.blk b9 79 [.slice A1 a0.Arena.Slots.length cp2, .slice A5 a0.Kids.length cp6], .blk b11 81 [.int .i64 a1.Slot, .int .i64 a1.Gen], .blk b13 79 [.slice none 0 0, .slice none 0 0], .row (.slice (some ⟨b15, 0, none⟩) ([a1]).length 1) 81 k_Handle.sz ([a1]).length [.int .i64 a1.Slot, .int .i64 a1.Gen]] [RE.rd k_Slot A1 cp2 a0.Arena.Slots, RE.rd (Kd.slice k_Handle) A5 cp6 a0.Kids, RE.chunks k_Handle [.int .i64 a1.Slot, .int .i64 a1.Gen] ([a1])]) => ?_))
  refine RL_pure (by exact wn0 rfl) (by rfl) (by rfl) (x_assign (v := .int .i64 v20) (by rfl)) ?_
  refine RL_nil ?_
  refine W_ret ?_
  have H : Sep ok w w22 [.blk b9 79 [.slice A1 a0.Arena.Slots.length cp2, .slice A5 a0.Kids.length cp6], .blk b11 81 [.int .i64 a1.Slot, .int .i64 a1.Gen], .blk b13 79 [.slice none 0 0, .slice none 0 0], .row (.slice (some ⟨b15, 0, none⟩) ([a1]).length 1) 81 k_Handle.sz ([a1]).length [.int .i64 a1.Slot, .int .i64 a1.Gen]] [RE.rd k_Slot A1 cp2 a0.Arena.Slots, RE.rd (Kd.slice k_Handle) A5 cp6 a0.Kids, RE.chunks k_Handle [.int .i64 a1.Slot, .int .i64 a1.Gen] ([a1]), RE.fr w.heap.size k_Slot none 0 ([])] := Sep.also H (re := RE.fr w.heap.size k_Slot none 0 ([])) (Rd.nil (by decide))
  have H : Sep ok w w22 [.blk b9 79 [.slice A1 a0.Arena.Slots.length cp2, .slice A5 a0.Kids.length cp6], .blk b11 81 [.int .i64 a1.Slot, .int .i64 a1.Gen], .blk b13 79 [.slice none 0 0, .slice none 0 0], .row (.slice (some ⟨b15, 0, none⟩) ([a1]).length 1) 81 k_Handle.sz ([a1]).length [.int .i64 a1.Slot, .int .i64 a1.Gen]] [RE.rd k_Slot A1 cp2 a0.Arena.Slots, RE.rd (Kd.slice k_Handle) A5 cp6 a0.Kids, RE.chunks k_Handle [.int .i64 a1.Slot, .int .i64 a1.Gen] ([a1]), RE.fr w.heap.size k_Slot none 0 ([]), RE.fr w.heap.size (Kd.slice k_Handle) none 0 ([])] := Sep.also H (re := RE.fr w.heap.size (Kd.slice k_Handle) none 0 ([])) (Rd.nil (by decide))
  obtain rfl := Option.some.inj hm
  exact ⟨[.agg #[.slice none 0 0, .slice none 0 0], .int .i64 v20], (.cellA (by rfl) ag79 (H.cells (i := 2) (by rfl)) (by rfl) (.tmp (by rfl) rfl)), none, 0, none, 0, rfl, (H.forgetAll).pick [3, 4]⟩
 ·have hm := cond_f hb hm
  refine W_skip ?_
  refine W_seq ?_
  refine W_region ?_
  refine RL_pure (by exact wn0 rfl) (by rfl) (by rfl) (x_loadA (j := 0) (vs := [.slice A1 a0.Arena.Slots.length cp2, .slice A5 a0.Kids.length cp6]) ag79 (by rfl) (H.cells (i := 0) (by rfl)) (by rfl) (by rfl)) ?_
  unfold tl40 at hm
  obtain ⟨v, hv, hm⟩ := bind_some hm
  have H : Sep ok w _ [.blk b9 79 [.slice A1 a0.Arena.Slots.length cp2, .slice A5 a0.Kids.length cp6], .blk b11 81 [.int .i64 a1.Slot, .int .i64 a1.Gen], .blk b13 79 [.slice none 0 0, .slice none 0 0]] [RE.rd k_Slot A1 cp2 a0.Arena.Slots, RE.rd (Kd.slice k_Handle) A5 cp6 a0.Kids] := (H.takeL 3).pick [0, 1]
  refine RL_cons (O_call (by exact wn0 rfl) (by rfl) (by rfl) (x_callL (by rfl) (args := [.agg #[.slice A1 a0.Arena.Slots.length cp2, .slice A5 a0.Kids.length cp6]]) (by rfl) (cf53 _ _)) (c53x _ K _ a0 A1 cp2 A5 cp6 (H.rd (i := 0) (by rfl)) (H.rd (i := 1) (by rfl)) v hv) ?_)
  rintro e w2 ⟨A2, c2, s2, A3, c3, s3, ls, hls, rfl, H2⟩
  have H : Sep ok w w2 [.blk b9 79 [.slice A1 a0.Arena.Slots.length cp2, .slice A5 a0.Kids.length cp6], .blk b11 81 [.int .i64 a1.Slot, .int .i64 a1.Gen], .blk b13 79 [.slice none 0 0, .slice none 0 0], .row (.slice A2 v.Arena.Slots.length c2) 96 k_Slot.sz v.Arena.Slots.length s2, .row (.slice A3 (ls.map Inn.hd).length c3) 87 kHd.sz (ls.map Inn.hd).length s3, rowsOf 81 k_Handle.sz ls] [RE.rd k_Slot A1 cp2 a0.Arena.Slots, RE.rd (Kd.slice k_Handle) A5 cp6 a0.Kids, RE.chunks k_Slot s2 v.Arena.Slots, RE.chunks kHd s3 (ls.map Inn.hd), RE.inns k_Handle ls] := H.call H2
  clear H2
  refine ⟨_, rfl, ?_⟩
  show RL _ _ _ _ _ _ _
  refine RL_cons (O_store (i := 0) (off := 0) (by exact wn0 rfl) (by rfl) (by rfl) H (by rfl) (vs := [.slice A2 v.Arena.Slots.length c2, .slice A3 (ls.map Inn.hd).length c3]) (by rfl) sz79 (by rfl) (by rfl) (by rfl) (fun w3 (H : Sep ok w w3 [.blk b9 79 [.slice A2 v.Arena.Slots.length c2, .slice A3 (ls.map Inn.hd).length c3], .blk b11 81 [.int .i64 a1.Slot, .int .i64 a1.Gen], .blk b13 79 [.slice none 0 0, .slice none 0 0], .row (.slice A2 v.Arena.Slots.length c2) 96 k_Slot.sz v.Arena.Slots.length s2, .row (.slice A3 (ls.map Inn.hd).length c3) 87 kHd.sz (ls.map Inn.hd).length s3, rowsOf 81 k_Handle.sz ls] [RE.rd k_Slot A1 cp2 a0.Arena.Slots, RE.rd (Kd.slice k_Handle) A5 cp6 a0.Kids, RE.chunks k_Slot s2 v.Arena.Slots, RE.chunks kHd s3 (ls.map Inn.hd), RE.inns k_Handle ls]) => ?_))
  refine RL_nil ?_
  obtain ⟨v2, hv2, hm⟩ := bind_some hm
  by_cases hrange : 0 ≤ a1.Slot ∧ a1.Slot < (v.Kids.length : Int) ∧ v.Kids.length < 9223372036854775807
  rotate_left
  ·rw [if_neg hrange] at hm; cases hm
  rw [if_pos hrange] at hm
  obtain ⟨h0, h1, hnm⟩ := hrange
  have hlen : ls.length = v.Kids.length := by rw [← hls, List.length_map]
  obtain ⟨r, hr⟩ : ∃ r, ls[a1.Slot.toNat]? = some r := ⟨_, List.getElem?_eq_getElem (show a1.Slot.toNat < ls.length by omega)⟩
  have hhd : (ls.map Inn.hd)[a1.Slot.toNat]? = some r.hd := by rw [List.getElem?_map, hr]; rfl
  have hlh : (ls.map Inn.hd).length = v.Kids.length := by rw [List.length_map, hlen]
  have H : Sep ok w w3 [.blk b9 79 [.slice A2 v.Arena.Slots.length c2, .slice A3 (ls.map Inn.hd).length c3], .blk b11 81 [.int .i64 a1.Slot, .int .i64 a1.Gen], .blk b13 79 [.slice none 0 0, .slice none 0 0], .hole, .row (.slice A3 (ls.map Inn.hd).length c3) 87 kHd.sz (ls.map Inn.hd).length s3, rowsOf 81 k_Handle.sz ls] [RE.rd k_Slot A1 cp2 a0.Arena.Slots, RE.rd (Kd.slice k_Handle) A5 cp6 a0.Kids, RE.rd k_Slot A2 c2 v.Arena.Slots, RE.chunks kHd s3 (ls.map Inn.hd), RE.inns k_Handle ls] := H.frozen (i := 3) (j := 2) (by rfl) (by rfl)
  have hm3 : w.heap.size ≤ w3.heap.size := H.le
  refine W_seq ?_
  refine W_region ?_
  refine RL_pure (by exact wn0 rfl) (by rfl) (by rfl) (x_fieldAddr fo79_0 (by rfl)) ?_
  refine RL_pure (by exact wn0 rfl) (by rfl) (by rfl) (x_loadA (j := 0) (vs := [.slice A2 v.Arena.Slots.length c2]) ag76 (by rfl) (H.cells (i := 0) (by rfl)) (by rfl) (by rfl)) ?_
  refine RL_pure (by exact wn0 rfl) (by rfl) (by rfl) (x_loadA (j := 0) (vs := [.int .i64 a1.Slot, .int .i64 a1.Gen]) ag81 (by rfl) (H.cells (i := 1) (by rfl)) (by rfl) (by rfl)) ?_
  refine RL_cons (O_call (by exact wn0 rfl) (by rfl) (by rfl) (x_callL (by rfl) (args := [.agg #[.slice A2 v.Arena.Slots.length c2], .agg #[.int .i64 a1.Slot, .int .i64 a1.Gen]]) (by rfl) (cf83 _ _)) (c83n (okS ok w [.blk b9 79 [.slice A2 v.Arena.Slots.length c2, .slice A3 (ls.map Inn.hd).length c3], .blk b11 81 [.int .i64 a1.Slot, .int .i64 a1.Gen], .blk b13 79 [.slice none 0 0, .slice none 0 0], .hole, .row (.slice A3 (ls.map Inn.hd).length c3) 87 kHd.sz (ls.map Inn.hd).length s3, rowsOf 81 k_Handle.sz ls]) (fun _ h => h) K w3 v.Arena A2 c2 a1 (H.rd (i := 2) (by rfl)) v2 hv2) ?_)
  rintro e w4 ⟨A8, c8, rfl, H2⟩
  have H := H.call H2
  clear H2
  have H := H.also (re := RE.fr w.heap.size k_Slot A8 c8 v2.1.Slots) (Rd.weak (H.frRd (i := 5) (by rfl)) fun b ob _ hb => ⟨hb.1, Nat.le_trans hm3 hb.2.1, hb.2.2⟩)
  have H : Sep ok w w4 [.blk b9 79 [.slice A2 v.Arena.Slots.length c2, .slice A3 (ls.map Inn.hd).length c3], .blk b11 81 [.int .i64 a1.Slot, .int .i64 a1.Gen], .blk b13 79 [.slice none 0 0, .slice none 0 0], .hole, .row (.slice A3 (ls.map Inn.hd).length c3) 87 kHd.sz (ls.map Inn.hd).length s3, rowsOf 81 k_Handle.sz ls] [RE.rd k_Slot A1 cp2 a0.Arena.Slots, RE.rd (Kd.slice k_Handle) A5 cp6 a0.Kids, RE.rd k_Slot A2 c2 v.Arena.Slots, RE.chunks kHd s3 (ls.map Inn.hd), RE.inns k_Handle ls, RE.fr w.heap.size k_Slot A8 c8 v2.1.Slots] := H.pick [0, 1, 2, 3, 4, 6]
  refine ⟨_, rfl, ?_⟩
  show RL _ _ _ _ _ _ _
  refine RL_pure (by exact wn0 rfl) (by rfl) (by rfl) (x_move (v := tup [.agg #[.slice A8 v2.1.Slots.length c8], .int .i64 v2.2]) (by rfl)) ?_
  refine RL_pure (by exact wn0 rfl) (by rfl) (by rfl) (x_extract (by rfl) (v := .agg #[.slice A8 v2.1.Slots.length c8]) (by rfl)) ?_
  refine RL_pure (by exact wn0 rfl) (by rfl) (by rfl) (x_extract (by rfl) (v := .int .i64 v2.2) (by rfl)) ?_
  refine RL_pure (by exact wn0 rfl) (by rfl) (by rfl) (x_fieldAddr fo79_0 (by rfl)) ?_
  refine RL_cons (O_store (i := 0) (off := 0) (by exact wn0 rfl) (by rfl) (by rfl) H (by rfl) (vs := [.slice A8 v2.1.Slots.length c8]) (by rfl) sz76 (by rfl) (by rfl) (by rfl) (fun w5 (H : Sep ok w w5 [.blk b9 79 [.slice A8 v2.1.Slots.length c8, .slice A3 (ls.map Inn.hd).length c3], .blk b11 81 [.int .i64 a1.Slot, .int .i64 a1.Gen], .blk b13 79 [.slice none 0 0, .slice none 0 0], .hole, .row (.slice A3 (ls.map Inn.hd).length c3) 87 kHd.sz (ls.map Inn.hd).length s3, rowsOf 81 k_Handle.sz ls] [RE.rd k_Slot A1 cp2 a0.Arena.Slots, RE.rd (Kd.slice k_Handle) A5 cp6 a0.Kids, RE.rd k_Slot A2 c2 v.Arena.Slots, RE.chunks kHd s3 (ls.map Inn.hd), RE.inns k_Handle ls, RE.fr w.heap.size k_Slot A8 c8 v2.1.Slots]) => ?_))
  refine RL_nil ?_
  obtain ⟨gi, _, hAi, _, _⟩ := H.rowIdx (i := 4) (j := 3) (by rfl) (by rfl) hhd
  obtain ⟨l0, hl0⟩ : ∃ l0 : List (Inn S_Handle), ls.set a1.Slot.toNat Inn.nil = l0 := ⟨_, rfl⟩
  have hset0 : (ls.map Inn.hd).set a1.Slot.toNat (none, 0, 0) = l0.map Inn.hd := by rw [← hl0, List.map_set]; rfl
  have hk0 : l0.map (·.xs) = v.Kids.set a1.Slot.toNat [] := by rw [← hl0, List.map_set, hls]; rfl
  have hlen0 : l0.length = v.Kids.length := by rw [← hl0, List.length_set, hlen]
  refine W_seq ?_
  refine W_region ?_
  refine RL_pure (by exact wn0 rfl) (by rfl) (by rfl) (x_fieldAddr fo79_1 (by rfl)) ?_
  refine RL_pure (by exact wn0 rfl) (by rfl) (by rfl) (x_load (j := 1) (v := .slice A3 (ls.map Inn.hd).length c3) sc77 (by rfl) (H.cells (i := 0) (by rfl)) (by rfl)) ?_
  refine RL_pure (by exact wn0 rfl) (by rfl) (by rfl) (x_fieldAddr fo81_0 (by rfl)) ?_
  refine RL_pure (by exact wn0 rfl) (by rfl) (by rfl) (x_load (j := 0) (v := .int .i64 a1.Slot) sc3 (by rfl) (H.cells (i := 1) (by rfl)) (by rfl)) ?_
  refine RL_pure (by exact wn0 rfl) (by rfl) (by rfl) (x_indexAddr sl77 sz87 (by rfl) (by rfl) hAi h0 (by omega)) ?_
  refine RL_cons (O_storeRow (D := kHd) (i := 4) (j := 3) (off := 0) (m := a1.Slot) (a := r.hd) (b := (none, 0, 0)) (vs := [.slice none 0 0]) (by exact wn0 rfl) H (by rfl) (by rfl) hAi (by rfl) (by rfl) hhd (by rfl) sz87 (by rfl) (by rfl) (by intro ce hce; obtain rfl := hce; rfl) hset0 (fun w6 s6 (H : Sep ok w w6 [.blk b9 79 [.slice A8 v2.1.Slots.length c8, .slice A3 (ls.map Inn.hd).length c3], .blk b11 81 [.int .i64 a1.Slot, .int .i64 a1.Gen], .blk b13 79 [.slice none 0 0, .slice none 0 0], .hole, .row (.slice A3 (l0.map Inn.hd).length c3) 87 kHd.sz (l0.map Inn.hd).length s6, rowsOf 81 k_Handle.sz ls] [RE.rd k_Slot A1 cp2 a0.Arena.Slots, RE.rd (Kd.slice k_Handle) A5 cp6 a0.Kids, RE.rd k_Slot A2 c2 v.Arena.Slots, RE.chunks kHd s6 (l0.map Inn.hd), RE.inns k_Handle ls, RE.fr w.heap.size k_Slot A8 c8 v2.1.Slots]) => ?_))
  refine RL_nil ?_
  have H := H.rowsPull (i := 5) (j := a1.Slot.toNat) (by rfl) hr
  have hin := RE.inns_set (r := (Inn.nil : Inn S_Handle)) (j := a1.Slot.toNat) (show (RE.inns k_Handle ls).rel w6 _ from H.rds 4 _ (by rfl)) (by exact Chunks.nil)
  have H := H.setRe 4 hin
  rw [hl0] at H
  have H : Sep ok w w6 [.blk b9 79 [.slice A8 v2.1.Slots.length c8, .slice A3 (ls.map Inn.hd).length c3], .blk b11 81 [.int .i64 a1.Slot, .int .i64 a1.Gen], .blk b13 79 [.slice none 0 0, .slice none 0 0], .hole, .row (.slice A3 (l0.map Inn.hd).length c3) 87 kHd.sz (l0.map Inn.hd).length s6, rowsOf 81 k_Handle.sz l0] [RE.rd k_Slot A1 cp2 a0.Arena.Slots, RE.rd (Kd.slice k_Handle) A5 cp6 a0.Kids, RE.rd k_Slot A2 c2 v.Arena.Slots, RE.chunks kHd s6 (l0.map Inn.hd), RE.inns k_Handle l0, RE.fr w.heap.size k_Slot A8 c8 v2.1.Slots] := H.takeL 6
  clear hin
  refine W_seq ?_
  refine W_seq ?_
  refine W_region ?_
  refine RL_pure (by exact wn0 rfl) (by rfl) (by rfl) (x_fieldAddr fo79_1 (by rfl)) ?_
  refine RL_pure (by exact wn0 rfl) (by rfl) (by rfl) (x_load (j := 1) (v := .slice A3 (ls.map Inn.hd).length c3) sc77 (by rfl) (H.cells (i := 0) (by rfl)) (by rfl)) ?_
  refine RL_pure (by exact wn0 rfl) (by rfl) (by rfl) (x_len sl77 (by rfl)) ?_
  refine RL_pure (by exact wn0 rfl) (by rfl) (by rfl) (x_move (v := .int .i64 0) (by rfl)) ?_
  refine RL_nil ?_
  refine W_block ?_
  refine W_loop (fun k r' w' => ∃ (l : List (Inn S_Handle)) (i : Nat) (sl : List Value), i ≤ v.Kids.length ∧ v.Kids.length < i + k ∧ l.map (·.xs) = ((l0.map (·.xs)).take i).map (fun l : List S_Handle => l.filter fun x => !eqH a1 x) ++ (l0.map (·.xs)).drop i ∧ Agr [(2, .pointer (some ⟨b9, 0, none⟩)), (3, .pointer (some ⟨b11, 0, none⟩)), (4, .pointer (some ⟨b13, 0, none⟩)), (33, .slice A3 (ls.map Inn.hd).length c3), (34, .int .i64 ((ls.map Inn.hd).length : Int)), (35, .int .i64 (i : Int))] r' ∧ Sep ok w w' [.blk b9 79 [.slice A8 v2.1.Slots.length c8, .slice A3 (ls.map Inn.hd).length c3], .blk b11 81 [.int .i64 a1.Slot, .int .i64 a1.Gen], .blk b13 79 [.slice none 0 0, .slice none 0 0], .hole, .row (.slice A3 (l.map Inn.hd).length c3) 87 kHd.sz (l.map Inn.hd).length sl, rowsOf 81 k_Handle.sz l] [RE.rd k_Slot A1 cp2 a0.Arena.Slots, RE.rd (Kd.slice k_Handle) A5 cp6 a0.Kids, RE.rd k_Slot A2 c2 v.Arena.Slots, RE.chunks kHd sl (l.map Inn.hd), RE.inns k_Handle l, RE.fr w.heap.size k_Slot A8 c8 v2.1.Slots]) (v.Kids.length + 1) ?_ ?_
  ·exact ⟨l0, 0, s6, by omega, by omega, by simp, ⟨rfl, rfl, rfl, rfl, rfl, rfl, trivial⟩, H⟩
  rintro k r' w' ⟨l, i, sl, hi1, hi2, hlx, hAg, H⟩
  obtain ⟨r20, rfl⟩ := regen _ hAg; clear hAg
  obtain ⟨w20, rfl⟩ : ∃ W : World, W = w' := ⟨_, rfl⟩
  have hll : l.length = v.Kids.length := by
   have h2 := congrArg List.length hlx
   simp only [List.length_map, List.length_append, List.length_take, List.length_drop] at h2
   omega
  have hlhi : (l.map Inn.hd).length = v.Kids.length := by rw [List.length_map, hll]
  refine W_seq ?_
  refine W_region ?_
  refine RL_pure (by exact wn0 rfl) (by rfl) (by rfl) (x_lss (by rfl) (by rfl)) ?_
  refine RL_nil ?_
  refine W_seq ?_
  refine W_cond (by rfl) (fun hb => ?_) (fun hb => ?_)
  ·have hlt : i < l.length := by have := of_decide_eq_true hb; omega
   have hq : l[i]? = some l[i] := List.getElem?_eq_getElem hlt
   generalize l[i] = q at hq
   have hqh : (l.map Inn.hd)[((i : Int)).toNat]? = some q.hd := by rw [Int.toNat_natCast, List.getElem?_map, hq]; rfl
   obtain ⟨gq, _, hAq, _, _⟩ := H.rowIdx (i := 4) (j := 3) (by rfl) (by rfl) hqh
   refine W_skip ?_
   refine W_seq ?_
   refine W_block ?_
   refine W_seq ?_
   refine W_region ?_
   refine RL_pure (by exact wn0 rfl) (by rfl) (by rfl) (x_move (v := .int .i64 (i : Int)) (by rfl)) ?_
   refine RL_pure (by exact wn0 rfl) (by rfl) (by rfl) (x_indexAddr sl77 sz87 (by rfl) (by rfl) hAq (by omega) (by omega)) ?_
   refine RL_pure (by exact wn0 rfl) (by rfl) (by rfl) (x_load (j := 0) (v := .slice q.A q.xs.length q.c) sc87 (by rfl) (H.rowFlatAt (n := 1) (i := 4) (j := 3) (by rfl) (by rfl) hAq hqh) (by rfl)) ?_
   refine RL_pure (by exact wn0 rfl) (by rfl) (by rfl) (x_assign (v := .int .i64 (i : Int)) (by rfl)) ?_
   refine RL_pure (by exact wn0 rfl) (by rfl) (by rfl) (x_assign (v := .slice q.A q.xs.length q.c) (by rfl)) ?_
   refine RL_nil ?_
   refine W_draw [.free 0, .take 1, .free 2, .free 3, .free 4, .run 5, .free 6, .tail 7] (fun wS => Sep ok w wS [.blk b9 79 [.slice A8 v2.1.Slots.length c8, .slice A3 (ls.map Inn.hd).length c3], .blk b11 81 [.int .i64 a1.Slot, .int .i64 a1.Gen], .blk b13 79 [.slice none 0 0, .slice none 0 0], .hole, .row (.slice A3 (l.map Inn.hd).length c3) 87 kHd.sz (l.map Inn.hd).length sl] [RE.rd k_Slot A1 cp2 a0.Arena.Slots, RE.rd (Kd.slice k_Handle) A5 cp6 a0.Kids, RE.rd k_Slot A2 c2 v.Arena.Slots, RE.chunks kHd sl (l.map Inn.hd)]) [7] [0, 2, 3, 4, 6] mixed0 (by kernel_rfl) (by kernel_rfl) (by kernel_rfl) (by rfl) (by exact (H.drew.takeL 5).takeR 4) ?_
   obtain ⟨w21, hW⟩ : ∃ W : World, W = { w20 with drawn := w20.drawn + 1 } := ⟨_, rfl⟩
   rw [← hW]
   have H : Sep ok w w21 [.blk b9 79 [.slice A8 v2.1.Slots.length c8, .slice A3 (ls.map Inn.hd).length c3], .blk b11 81 [.int .i64 a1.Slot, .int .i64 a1.Gen], .blk b13 79 [.slice none 0 0, .slice none 0 0], .hole, .row (.slice A3 (l.map Inn.hd).length c3) 87 kHd.sz (l.map Inn.hd).length sl, rowsOf 81 k_Handle.sz l] [RE.rd k_Slot A1 cp2 a0.Arena.Slots, RE.rd (Kd.slice k_Handle) A5 cp6 a0.Kids, RE.rd k_Slot A2 c2 v.Arena.Slots, RE.chunks kHd sl (l.map Inn.hd), RE.inns k_Handle l, RE.fr w.heap.size k_Slot A8 c8 v2.1.Slots] := by rw [hW]; exact H.drew
   clear hW
   refine PR_free (by rfl) (by rfl) (by rfl) (by exact wn0 rfl) (fun wS => (x_fieldAddr fo79_1 (by rfl))) ?_
   refine PR_take (by rfl) (by rfl) (by rfl) (by exact wn0 rfl) (fun wS (H : Sep ok w wS [.blk b9 79 [.slice A8 v2.1.Slots.length c8, .slice A3 (ls.map Inn.hd).length c3], .blk b11 81 [.int .i64 a1.Slot, .int .i64 a1.Gen], .blk b13 79 [.slice none 0 0, .slice none 0 0], .hole, .row (.slice A3 (l.map Inn.hd).length c3) 87 kHd.sz (l.map Inn.hd).length sl] [RE.rd k_Slot A1 cp2 a0.Arena.Slots, RE.rd (Kd.slice k_Handle) A5 cp6 a0.Kids, RE.rd k_Slot A2 c2 v.Arena.Slots, RE.chunks kHd sl (l.map Inn.hd)]) => (x_load (j := 1) (v := .slice A3 (ls.map Inn.hd).length c3) sc77 (by rfl) (H.cells (i := 0) (by rfl)) (by rfl))) ?_
   refine PR_free (by rfl) (by rfl) (by rfl) (by exact wn0 rfl) (fun wS => (x_move (v := .int .i64 (i : Int)) (by rfl))) ?_
   refine PR_free (by rfl) (by rfl) (by rfl) (by exact wn0 rfl) (fun wS => (x_move (v := .slice q.A q.xs.length q.c) (by rfl))) ?_
   refine PR_free (by rfl) (by rfl) (by rfl) (by exact wn0 rfl) (fun wS => (x_makeFunc (vs := [.pointer (some ⟨b11, 0, none⟩)]) (by rfl))) ?_
   have H : Sep ok w w21 [.blk b9 79 [.slice A8 v2.1.Slots.length c8, .slice A3 (ls.map Inn.hd).length c3], .blk b11 81 [.int .i64 a1.Slot, .int .i64 a1.Gen], .blk b13 79 [.slice none 0 0, .slice none 0 0], .hole, .row (.slice A3 (l.map Inn.hd).length c3) 87 kHd.sz (l.map Inn.hd).length sl, rowsOf 81 k_Handle.sz (l.set i Inn.nil), .row (.slice q.A q.xs.length q.c) 81 k_Handle.sz q.xs.length q.cs] [RE.rd k_Slot A1 cp2 a0.Arena.Slots, RE.rd (Kd.slice k_Handle) A5 cp6 a0.Kids, RE.rd k_Slot A2 c2 v.Arena.Slots, RE.chunks kHd sl (l.map Inn.hd), RE.inns k_Handle l, RE.fr w.heap.size k_Slot A8 c8 v2.1.Slots] := H.rowsPull (i := 5) (j := i) (by rfl) hq
   have hrc : Chunks k_Handle w21 (okS ok w [.blk b9 79 [.slice A8 v2.1.Slots.length c8, .slice A3 (ls.map Inn.hd).length c3], .blk b11 81 [.int .i64 a1.Slot, .int .i64 a1.Gen], .blk b13 79 [.slice none 0 0, .slice none 0 0], .hole, .row (.slice A3 (l.map Inn.hd).length c3) 87 kHd.sz (l.map Inn.hd).length sl, rowsOf 81 k_Handle.sz (l.set i Inn.nil), .row (.slice q.A q.xs.length q.c) 81 k_Handle.sz q.xs.length q.cs]) q.cs q.xs := (show (RE.inns k_Handle l).rel w21 _ from H.rds 4 _ (by rfl)) q (List.mem_of_getElem? hq)
   have HL := H.lend (i := 6) (by rfl)
   have HL := HL.also (re := RE.chunks k_Handle q.cs q.xs) (hrc.flat (fun _ _ _ _ _ _ h => h))
   have HL := H.lendBlk HL (i := 6) (j := 1) (by rfl) (by rfl) (by decide)
   obtain ⟨l2, hl2⟩ : ∃ l2, q.xs.filter (fun x => !eqH a1 x) = l2 := ⟨_, rfl⟩
   refine PR_run (by rfl) (O_call (by exact wn0 rfl) (by rfl) (by rfl) (x_callL (by rfl) (args := [.slice q.A q.xs.length q.c, .func (.func 85) #[] #[.pointer (some ⟨b11, 0, none⟩)]]) (by rfl) (cf84 _ _)) (c84 _ K w21 w21 q.xs q.A q.c q.cs a1 b11 HL l2 hl2) ?_)
   rintro e w22 ⟨A7, c7, cs7, rfl, HB⟩
   have hcB : Chunks k_Handle w22 _ cs7 l2 := HB.rds 0 _ (by rfl)
   have H : Sep ok w w22 [.blk b9 79 [.slice A8 v2.1.Slots.length c8, .slice A3 (ls.map Inn.hd).length c3], .blk b11 81 [.int .i64 a1.Slot, .int .i64 a1.Gen], .blk b13 79 [.slice none 0 0, .slice none 0 0], .hole, .row (.slice A3 (l.map Inn.hd).length c3) 87 kHd.sz (l.map Inn.hd).length sl, rowsOf 81 k_Handle.sz (l.set i Inn.nil), .row (.slice A7 l2.length c7) 81 k_Handle.sz l2.length cs7] [RE.rd k_Slot A1 cp2 a0.Arena.Slots, RE.rd (Kd.slice k_Handle) A5 cp6 a0.Kids, RE.rd k_Slot A2 c2 v.Arena.Slots, RE.chunks kHd sl (l.map Inn.hd), RE.inns k_Handle l, RE.fr w.heap.size k_Slot A8 c8 v2.1.Slots, RE.chunks k_Handle cs7 l2] := (H.back (i := 6) (by rfl) HB).also (re := RE.chunks k_Handle cs7 l2) (hcB.flat (fun _ _ _ _ _ _ h => h))
   clear HB HL
   refine ⟨_, rfl, (H.takeL 5).takeR 4, ?_⟩
   show PR _ _ _ _ _ _ _ _
   refine PR_free (by rfl) (by rfl) (by rfl) (by exact wn0 rfl) (fun wS => (x_indexAddr sl77 sz87 (by rfl) (by rfl) hAq (by omega) (by omega))) ?_
   obtain ⟨l3, hl3⟩ : ∃ l3 : List (Inn S_Handle), l.set i ⟨A7, c7, cs7, l2⟩ = l3 := ⟨_, rfl⟩
   have hset : (l.map Inn.hd).set ((i : Int)).toNat (A7, l2.length, c7) = l3.map Inn.hd := by rw [← hl3, List.map_set]; rfl
   refine PR_tail (by rfl) (O_storeRow (D := kHd) (i := 4) (j := 3) (off := 0) (m := (i : Int)) (a := q.hd) (b := (A7, l2.length, c7)) (vs := [.slice A7 l2.length c7]) (by exact wn0 rfl) H (by rfl) (by rfl) hAq (by rfl) (by rfl) hqh (by rfl) sz87 (by rfl) (by rfl) (by intro ce hce; obtain rfl := hce; rfl) hset (fun w23 s9 (H : Sep ok w w23 [.blk b9 79 [.slice A8 v2.1.Slots.length c8, .slice A3 (ls.map Inn.hd).length c3], .blk b11 81 [.int .i64 a1.Slot, .int .i64 a1.Gen], .blk b13 79 [.slice none 0 0, .slice none 0 0], .hole, .row (.slice A3 (l3.map Inn.hd).length c3) 87 kHd.sz (l3.map Inn.hd).length s9, rowsOf 81 k_Handle.sz (l.set i Inn.nil), .row (.slice A7 l2.length c7) 81 k_Handle.sz l2.length cs7] [RE.rd k_Slot A1 cp2 a0.Arena.Slots, RE.rd (Kd.slice k_Handle) A5 cp6 a0.Kids, RE.rd k_Slot A2 c2 v.Arena.Slots, RE.chunks kHd s9 (l3.map Inn.hd), RE.inns k_Handle l, RE.fr w.heap.size k_Slot A8 c8 v2.1.Slots, RE.chunks k_Handle cs7 l2]) => ?_))
   refine PR_nil ?_
   have hin := RE.inns_set (r := (⟨A7, c7, cs7, l2⟩ : Inn S_Handle)) (j := i) (show (RE.inns k_Handle l).rel w23 _ from H.rds 4 _ (by rfl)) (show (RE.chunks k_Handle cs7 l2).rel w23 _ from H.rds 6 _ (by rfl))
   rw [hl3] at hin
   have H := (H.setRe 4 hin).rowsPut (i := 5) (j := i) (k := 6) (r0 := Inn.nil) (r := ⟨A7, c7, cs7, l2⟩) (by rfl) (by rw [List.getElem?_set_self hlt]) (by rfl) (by decide)
   rw [List.set_set, hl3] at H
   have H : Sep ok w w23 [.blk b9 79 [.slice A8 v2.1.Slots.length c8, .slice A3 (ls.map Inn.hd).length c3], .blk b11 81 [.int .i64 a1.Slot, .int .i64 a1.Gen], .blk b13 79 [.slice none 0 0, .slice none 0 0], .hole, .row (.slice A3 (l3.map Inn.hd).length c3) 87 kHd.sz (l3.map Inn.hd).length s9, rowsOf 81 k_Handle.sz l3] [RE.rd k_Slot A1 cp2 a0.Arena.Slots, RE.rd (Kd.slice k_Handle) A5 cp6 a0.Kids, RE.rd k_Slot A2 c2 v.Arena.Slots, RE.chunks kHd s9 (l3.map Inn.hd), RE.inns k_Handle l3, RE.fr w.heap.size k_Slot A8 c8 v2.1.Slots] := (H.takeL 6).takeR 6
   have hw2 : IntKind.i64.wrap ((i : Int) + 1) = ((i + 1 : Nat) : Int) := by rw [wrap_i64_in (by omega)]; push_cast; rfl
   refine W_region ?_
   refine RL_pure (by exact wn0 rfl) (by rfl) (by rfl) (x_add (by rfl) (by rfl) hw2) ?_
   refine RL_pure (by exact wn0 rfl) (by rfl) (by rfl) (x_move (v := .int .i64 ((i + 1 : Nat) : Int)) (by rfl)) ?_
   refine RL_nil ?_
   refine ⟨k - 1, by omega, l3, i + 1, s9, by omega, by omega, ?_, ⟨rfl, rfl, rfl, rfl, rfl, rfl, trivial⟩, H⟩
   rw [← hl3, List.map_set, hlx]
   have hqx : (l0.map (·.xs))[i]? = some q.xs := by
    have h2 : (l.map (·.xs))[i]? = some q.xs := by rw [List.getElem?_map, hq]; rfl
    rw [hlx, List.getElem?_append_right (by simp; omega)] at h2
    simp only [List.length_map, List.length_take] at h2
    rw [show i - min i l0.length = 0 by omega, List.getElem?_drop] at h2
    exact h2
   have hli : i < (l0.map (·.xs)).length := by rw [List.length_map, hlen0]; omega
   rw [← hl2]
   exact set_filter _ hqx
  ·have hge : i = v.Kids.length := by have := of_decide_eq_false hb; omega
   have hk3 : l.map (·.xs) = (v.Kids.set a1.Slot.toNat []).map (fun l : List S_Handle => l.filter fun x => !eqH a1 x) := by
    rw [hlx, hge, ← hk0, List.take_of_length_le (by rw [List.length_map]; omega), List.drop_eq_nil_of_le (by rw [List.length_map]; omega), List.append_nil]
   refine W_exit ?_
   refine W_seq ?_
   refine W_region ?_
   refine RL_pure (by exact wn0 rfl) (by rfl) (by rfl) (x_loadA (j := 0) (vs := [.slice A8 v2.1.Slots.length c8, .slice A3 (ls.map Inn.hd).length c3]) ag79 (by rfl) (H.cells (i := 0) (by rfl)) (by rfl) (by rfl)) ?_
   refine RL_cons (O_store (i := 2) (off := 0) (by exact wn0 rfl) (by rfl) (by rfl) H (by rfl) (vs := [.slice A8 v2.1.Slots.length c8, .slice A3 (ls.map Inn.hd).length c3]) (by rfl) sz79 (by rfl) (by rfl) (by rfl) (fun w30 (H : Sep ok w w30 [.blk b9 79 [.slice A8 v2.1.Slots.length c8, .slice A3 (ls.map Inn.hd).length c3], .blk b11 81 [.int .i64 a1.Slot, .int .i64 a1.Gen], .blk b13 79 [.slice A8 v2.1.Slots.length c8, .slice A3 (ls.map Inn.hd).length c3], .hole, .row (.slice A3 (l.map Inn.hd).length c3) 87 kHd.sz (l.map Inn.hd).length sl, rowsOf 81 k_Handle.sz l] [RE.rd k_Slot A1 cp2 a0.Arena.Slots, RE.rd (Kd.slice k_Handle) A5 cp6 a0.Kids, RE.rd k_Slot A2 c2 v.Arena.Slots, RE.chunks kHd sl (l.map Inn.hd), RE.inns k_Handle l, RE.fr w.heap.size k_Slot A8 c8 v2.1.Slots]) => ?_))
   refine RL_pure (by exact wn0 rfl) (by rfl) (by rfl) (x_assign (v := .int .i64 0) (by rfl)) ?_
   refine RL_nil ?_
   refine W_ret ?_
   have HF : Sep ok w w30 [.blk b9 79 [.slice A8 v2.1.Slots.length c8, .slice A3 (ls.map Inn.hd).length c3], .blk b11 81 [.int .i64 a1.Slot, .int .i64 a1.Gen], .blk b13 79 [.slice A8 v2.1.Slots.length c8, .slice A3 (ls.map Inn.hd).length c3], .hole, .row (.slice A3 (l.map Inn.hd).length c3) 87 kHd.sz (l.map Inn.hd).length sl, rowsOf 81 k_Handle.sz l] [RE.rd k_Slot A1 cp2 a0.Arena.Slots, RE.rd (Kd.slice k_Handle) A5 cp6 a0.Kids, RE.rd k_Slot A2 c2 v.Arena.Slots, RE.chunks kHd sl (l.map Inn.hd), RE.inns k_Handle l, RE.fr w.heap.size k_Slot A8 c8 v2.1.Slots] := H
   have H := H.rowsFreeze hno (fun _ _ _ _ _ _ h => h) (i := 5) (o := 4) (j := 3) (q := 4) (l := l) (by rfl) (by rw [← (List.length_map Inn.hd : (List.map Inn.hd l).length = _)]; rfl) (by rfl) (by rfl) (by decide)
   rw [hk3] at H
   obtain rfl := Option.some.inj hm
   have hkl : (ls.map Inn.hd).length = ((v.Kids.set a1.Slot.toNat []).map (fun l : List S_Handle => l.filter fun x => !eqH a1 x)).length := by rw [hlh, List.length_map, List.length_set]
   exact ⟨[.agg #[.slice A8 v2.1.Slots.length c8, .slice A3 (ls.map Inn.hd).length c3], .int .i64 0], (.cellA (by rfl) ag79 (HF.cells (i := 2) (by rfl)) (by rfl) (.tmp (by rfl) rfl)), A8, c8, A3, c3, by rw [hkl] <;> rfl, (H.forgetAll).pick [5, 6]⟩

theorem c40 (ok : Okp) (K : Nat) (w : World) (a0 : S_Graph) (A1 : Option Addr) (cp2 : Nat) (A5 : Option Addr) (cp6 : Nat) (a1 : S_Handle) (hR3 : Rd k_Slot w ok A1 cp2 a0.Arena.Slots) (hR7 : Rd (Kd.slice k_Handle) w ok A5 cp6 a0.Kids) (res : S_Graph × Int) (hm : m40 K a0 a1 = some res) (hno : ∀ k, ¬ ok.wr k := by intro k hk; exact hk) :
  Calls Try.prog 40 #[.agg #[.slice A1 a0.Arena.Slots.length cp2, .slice A5 a0.Kids.length cp6], .agg #[.int .i64 a1.Slot, .int .i64 a1.Gen]] w (fun e w' => ∃ (A0_ : Option Addr) (c0_ : Nat), ∃ (A1_ : Option Addr) (c1_ : Nat), e = .returned (tup [.agg #[.slice A0_ res.1.Arena.Slots.length c0_, .slice A1_ res.1.Kids.length c1_], .int .i64 res.2]) ∧ Sep ok w w' [] [RE.rd k_Slot A0_ c0_ res.1.Arena.Slots, RE.rd (Kd.slice k_Handle) A1_ c1_ res.1.Kids]) :=
 (c40n ok hno K w a0 A1 cp2 A5 cp6 a1 hR3 hR7 res hm).mono fun e w' ⟨A0_, c0_, A1_, c1_, he, H⟩ => ⟨A0_, c0_, A1_, c1_, he, ((H.alsoRd (i := 0) (by rfl)).alsoRd (i := 1) (by rfl)).pick [2, 3]⟩
end Go.Proofs.YtobkigllalbkiaaV.M

/- A plain Lean function that answers as the Go function does (none: not told), and the proof that a call answers so. Written by program. -/
set_option linter.unusedVariables false
namespace Go.Proofs.YtobkigllalbkiaaV.M
open Go.RowKit Go.Proofs.YtobkigllalbkiaaV
set_option maxRecDepth 100000 in
set_option maxHeartbeats 4000000 in
/-- slices.Delete, of a row that is handed over; some are taken out. -/
theorem c86 (ok : Okp) (w0 w : World) (a0 : List S_Handle) (i j : Int) (A : Option Addr) (c : Nat) (cs : List Value) (H : Sep ok w0 w [.row (.slice A a0.length c) 81 k_Handle.sz a0.length cs] [RE.chunks k_Handle cs a0])
  (h0 : 0 ≤ i) (h1 : i < j) (h2 : j ≤ (a0.length : Int)) (res : List S_Handle) (hres : a0.take i.toNat ++ a0.drop j.toNat = res) :
  Calls Try.prog 86 #[.slice A a0.length c, .int .i64 i, .int .i64 j] w (fun e w' => ∃ (A' : Option Addr) (c' : Nat) (cs' : List Value), e = .returned (tup [.slice A' res.length c']) ∧ Sep ok w0 w' [.row (.slice A' res.length c') 81 k_Handle.sz res.length cs'] [RE.chunks k_Handle cs' res]) := by
 refine calls_W (args := [.slice A a0.length c, .int .i64 i, .int .i64 j]) Try.func86 rfl Try.ntmps86 Try.results86 rfl fun r hr => ?_
 obtain ⟨r1, rfl⟩ := regen (r := r) [(0, .slice A a0.length c), (1, .int .i64 i), (2, .int .i64 j)] ⟨hr 0 _ rfl, hr 1 _ rfl, hr 2 _ rfl, trivial⟩
 obtain ⟨hac, hA⟩ := H.rowForm (i := 0) (by rfl)
 have hrl : res.length = i.toNat + (a0.length - j.toNat) := by subst hres; simp; omega
 refine W_seq ?_
 refine W_region ?_
 refine RL_pure (by exact wn0 rfl) (by rfl) (by rfl) (x_assign (v := .slice none 0 0) (by rfl)) ?_
 refine RL_nil ?_
 refine W_seq ?_
 refine W_region ?_
 refine RL_pure (by exact wn0 rfl) (by rfl) (by rfl) (x_move (v := .slice A a0.length c) (by rfl)) ?_
 refine RL_pure (by exact wn0 rfl) (by rfl) (by rfl) (x_move (v := .int .i64 i) (by rfl)) ?_
 refine RL_pure (by exact wn0 rfl) (by rfl) (by rfl) (x_move (v := .int .i64 j) (by rfl)) ?_
 refine RL_pure (by exact wn0 rfl) (by rfl) (by rfl) (x_move (v := .slice A a0.length c) (by rfl)) ?_
 refine RL_pure (by exact wn0 rfl) (by rfl) (by rfl) (x_len sl87 (by rfl)) ?_
 refine RL_pure (by exact wn0 rfl) (by rfl) (by rfl) (x_slice_lhm (A := A) (n := a0.length) (c := c) (k := .i64) (k2 := .i64) (k3 := .i64) (j := i) (j2 := j) (j3 := (a0.length : Int)) sl87 sz81 (by rfl) (by rfl) (by rfl) (by rfl) h0 (by omega) h2 (by omega)) ?_
 refine RL_nil ?_
 refine W_seq ?_
 refine W_seq ?_
 refine W_region ?_
 refine RL_pure (by exact wn0 rfl) (by rfl) (by rfl) (x_move (v := .int .i64 i) (by rfl)) ?_
 refine RL_pure (by exact wn0 rfl) (by rfl) (by rfl) (x_move (v := .int .i64 j) (by rfl)) ?_
 refine RL_pure (by exact wn0 rfl) (by rfl) (by rfl) (x_eql (by rfl) (by rfl)) ?_
 refine RL_nil ?_
 refine W_cond (by rfl) (fun hb => ?_) (fun hb => ?_)
 ·have : i = j := by simpa using hb
  omega
 refine W_skip ?_
 refine W_seq ?_
 refine W_region ?_
 refine RL_pure (by exact wn0 rfl) (by rfl) (by rfl) (x_move (v := .slice A a0.length c) (by rfl)) ?_
 refine RL_pure (by exact wn0 rfl) (by rfl) (by rfl) (x_len sl87 (by rfl)) ?_
 refine RL_pure (by exact wn0 rfl) (by rfl) (by rfl) (x_assign (v := .int .i64 (a0.length : Int)) (by rfl)) ?_
 refine RL_nil ?_
 refine W_seq ?_
 refine W_draw [.free 0, .free 1, .free 2, .free 3, .free 4, .free 5, .tail 6, .free 7] (fun wS => Sep ok w0 wS [.row (.slice A a0.length c) 81 k_Handle.sz a0.length cs] [RE.chunks k_Handle cs a0]) [6] [0, 1, 2, 3, 4, 5, 7] mixed0 (by kernel_rfl) (by kernel_rfl) (by kernel_rfl) (by rfl) (by exact H.drew) ?_
 obtain ⟨w2, hW⟩ : ∃ W : World, W = { w with drawn := w.drawn + 1 } := ⟨_, rfl⟩
 rw [← hW]
 have H : Sep ok w0 w2 [.row (.slice A a0.length c) 81 k_Handle.sz a0.length cs] [RE.chunks k_Handle cs a0] := by rw [hW]; exact H.drew
 clear hW
 refine PR_free (by rfl) (by rfl) (by rfl) (by exact wn0 rfl) (fun wS => (x_move (v := .slice A a0.length c) (by rfl))) ?_
 refine PR_free (by rfl) (by rfl) (by rfl) (by exact wn0 rfl) (fun wS => (x_move (v := .int .i64 i) (by rfl))) ?_
 refine PR_free (by rfl) (by rfl) (by rfl) (by exact wn0 rfl) (fun wS => (x_slice_hi (sz := k_Handle.sz) (A := A) (n := a0.length) (c := c) (k := .i64) (j := i) sl87 sz81 (by rfl) (by rfl) h0 (by omega))) ?_
 refine PR_free (by rfl) (by rfl) (by rfl) (by exact wn0 rfl) (fun wS => (x_move (v := .slice A a0.length c) (by rfl))) ?_
 refine PR_free (by rfl) (by rfl) (by rfl) (by exact wn0 rfl) (fun wS => (x_move (v := .int .i64 j) (by rfl))) ?_
 refine PR_free (by rfl) (by rfl) (by rfl) (by exact wn0 rfl) (fun wS => (x_slice_lo (sz := k_Handle.sz) (A := A) (n := a0.length) (c := c) (k := .i64) (j := j) sl87 sz81 (by rfl) (by rfl) (by omega) h2)) ?_
 refine PR_tail (by rfl) (O_cutAppend (D := k_Handle) (i := 0) (j := 0) (xs := a0) (A := A) (lo := i.toNat) (b := j.toNat) (by exact wn0 rfl) (by rfl) (by rfl) rfl (by rfl) rfl rfl H (by rfl) (by rfl) (by omega) (by omega) (by omega) hres sl87 sz81 (fun w3 cs3 (H : Sep ok w0 w3 [.row (.slice A res.length c) 81 k_Handle.sz res.length cs3] [RE.chunks k_Handle cs3 res]) => ?_)) 
 refine PR_free (by rfl) (by rfl) (by rfl) (by exact wn0 rfl) (fun wS => (x_assign (v := .slice A res.length c) (by rfl))) ?_
 refine PR_nil ?_
 refine W_seq ?_
 refine W_region ?_
 refine RL_pure (by exact wn0 rfl) (by rfl) (by rfl) (x_move (v := .slice A res.length c) (by rfl)) ?_
 refine RL_pure (by exact wn0 rfl) (by rfl) (by rfl) (x_move (v := .slice A res.length c) (by rfl)) ?_
 refine RL_pure (by exact wn0 rfl) (by rfl) (by rfl) (x_len sl87 (by rfl)) ?_
 refine RL_pure (by exact wn0 rfl) (by rfl) (by rfl) (x_move (v := .int .i64 (a0.length : Int)) (by rfl)) ?_
 refine RL_pure (by exact wn0 rfl) (by rfl) (by rfl) (x_slice_lh (sz := k_Handle.sz) (A := A) (n := res.length) (c := c) (k := .i64) (k2 := .i64) (j := (res.length : Int)) (j2 := (a0.length : Int)) sl87 sz81 (by rfl) (by rfl) (by rfl) (by omega) (by omega) (by omega)) ?_
 refine RL_cons (O_clearPast (D := k_Handle) (i := 0) (j := 0) (xs := res) (A := A) (lo := res.length) (x0 := (⟨0, 0⟩ : S_Handle)) (by exact wn0 rfl) (by rfl) rfl H (by rfl) (by rfl) (Nat.le_refl _) (by omega) sl87 ze81 (by rfl) (fun _ _ => rfl) (fun w4 (H : Sep ok w0 w4 [.row (.slice A res.length c) 81 k_Handle.sz res.length cs3] [RE.chunks k_Handle cs3 res]) => ?_))
 refine RL_nil ?_
 refine W_seq ?_
 refine W_region ?_
 refine RL_pure (by exact wn0 rfl) (by rfl) (by rfl) (x_move (v := .slice A res.length c) (by rfl)) ?_
 refine RL_pure (by exact wn0 rfl) (by rfl) (by rfl) (x_assign (v := .slice A res.length c) (by rfl)) ?_
 refine RL_nil ?_
 refine W_ret ?_
 exact ⟨[.slice A res.length c], (.tmp (by rfl) rfl), A, c, cs3, rfl, H⟩
end Go.Proofs.YtobkigllalbkiaaV.M

/- A plain Lean function that answers as the Go function does (none: not told), and the proof that a call answers so. Written by program. -/
set_option linter.unusedVariables false
namespace Go.Proofs.YtobkigllalbkiaaV.M
open Go.RowKit Go.Proofs.YtobkigllalbkiaaV
/-- Unlink, behind its call of Twin -/
def tl41 (K : Nat) (a0 : S_Graph) (a1 : S_Handle) (a2 : Int) : Option (S_Graph × Int) :=
 (m53 K a0).bind fun v => idx v.Kids a1.Slot fun l => if 0 ≤ a2 ∧ a2 < (l.length : Int) then some ((⟨v.Arena, v.Kids.set a1.Slot.toNat (l.take a2.toNat ++ l.drop (a2 + 1).toNat)⟩ : S_Graph), 0) else none
/-- diorama/nodes.Unlink -/
def m41 (K : Nat) (a0 : S_Graph) (a1 : S_Handle) (a2 : Int) : Option (S_Graph × Int) :=
 ((m79 K a0 ([a1])).bind fun v20 => (bif (v20 != 0) then some ((⟨(⟨[]⟩ : S_Arena), []⟩ : S_Graph), v20) else ((bif (decide (a2 < 0)) then some true else (idx a0.Kids a1.Slot fun el26 => some (decide ((el26.length : Int) ≤ a2)))).bind fun b25 => (bif b25 then some ((⟨(⟨[]⟩ : S_Arena), []⟩ : S_Graph), 2) else (tl41 K a0 a1 a2)))))
set_option maxRecDepth 100000 in
set_option maxHeartbeats 4000000 in
theorem c41n (ok : Okp) (hno : ∀ k, ¬ ok.wr k) (K : Nat) (w : World) (a0 : S_Graph) (A1 : Option Addr) (cp2 : Nat) (A5 : Option Addr) (cp6 : Nat) (a1 : S_Handle) (a2 : Int) (hR3 : Rd k_Slot w ok A1 cp2 a0.Arena.Slots) (hR7 : Rd (Kd.slice k_Handle) w ok A5 cp6 a0.Kids) (res : S_Graph × Int) (hm : m41 K a0 a1 a2 = some res) :
  Calls Try.prog 41 #[.agg #[.slice A1 a0.Arena.Slots.length cp2, .slice A5 a0.Kids.length cp6], .agg #[.int .i64 a1.Slot, .int .i64 a1.Gen], .int .i64 a2] w (fun e w' => ∃ (A0_ : Option Addr) (c0_ : Nat), ∃ (A1_ : Option Addr) (c1_ : Nat), e = .returned (tup [.agg #[.slice A0_ res.1.Arena.Slots.length c0_, .slice A1_ res.1.Kids.length c1_], .int .i64 res.2]) ∧ Sep ok w w' [] [RE.fr w.heap.size k_Slot A0_ c0_ res.1.Arena.Slots, RE.fr w.heap.size (Kd.slice k_Handle) A1_ c1_ res.1.Kids]) := by
 refine calls_W (args := [.agg #[.slice A1 a0.Arena.Slots.length cp2, .slice A5 a0.Kids.length cp6], .agg #[.int .i64 a1.Slot, .int .i64 a1.Gen], .int .i64 a2]) Try.func41 rfl Try.ntmps41 Try.results41 rfl fun r hr => ?_
 obtain ⟨r1, rfl⟩ := regen (r := r) [(0, .agg #[.slice A1 a0.Arena.Slots.length cp2, .slice A5 a0.Kids.length cp6]), (1, .agg #[.int .i64 a1.Slot, .int .i64 a1.Gen]), (2, .int .i64 a2)] ⟨hr 0 _ rfl, hr 1 _ rfl, hr 2 _ rfl, trivial⟩
 have H : Sep ok w w [] [RE.rd k_Slot A1 cp2 a0.Arena.Slots, RE.rd (Kd.slice k_Handle) A5 cp6 a0.Kids] := Sep.arg (Sep.arg (Sep.start ok w) (re := RE.rd k_Slot A1 cp2 a0.Arena.Slots) rfl rfl hR3) (re := RE.rd (Kd.slice k_Handle) A5 cp6 a0.Kids) rfl rfl hR7
 unfold m41 at hm
 refine W_seq ?_
 refine W_region ?_
 refine RL_cons (O_box (by exact wn0 rfl) (by rfl) (by rfl) (by rfl) H (fun w10 b9 (H : Sep ok w w10 [.blk b9 79 [.slice A1 a0.Arena.Slots.length cp2, .slice A5 a0.Kids.length cp6]] [RE.rd k_Slot A1 cp2 a0.Arena.Slots, RE.rd (Kd.slice k_Handle) A5 cp6 a0.Kids]) => ?_))
 refine RL_cons (O_box (by exact wn0 rfl) (by rfl) (by rfl) (by rfl) H (fun w12 b11 (H : Sep ok w w12 [.blk b9 79 [.slice A1 a0.Arena.Slots.length cp2, .slice A5 a0.Kids.length cp6], .blk b11 81 [.int .i64 a1.Slot, .int .i64 a1.Gen]] [RE.rd k_Slot A1 cp2 a0.Arena.Slots, RE.rd (Kd.slice k_Handle) A5 cp6 a0.Kids]) => ?_))
 refine RL_cons (O_alloc (by exact wn0 rfl) (by rfl) ze79 (by rfl) H (fun w14 b13 (H : Sep ok w w14 [.blk b9 79 [.slice A1 a0.Arena.Slots.length cp2, .slice A5 a0.Kids.length cp6], .blk b11 81 [.int .i64 a1.Slot, .int .i64 a1.Gen], .blk b13 79 [.slice none 0 0, .slice none 0 0]] [RE.rd k_Slot A1 cp2 a0.Arena.Slots, RE.rd (Kd.slice k_Handle) A5 cp6 a0.Kids]) => ?_))
 refine RL_pure (by exact wn0 rfl) (by rfl) (by rfl) (x_assign (v := .int .i64 0) (by rfl)) ?_
 refine RL_nil ?_
 refine W_seq ?_
 refine W_seq ?_
 refine W_region ?_
 refine RL_pure (by exact wn0 rfl) (by rfl) (by rfl) (x_loadA (j := 0) (vs := [.slice A1 a0.Arena.Slots.length cp2, .slice A5 a0.Kids.length cp6]) ag79 (by rfl) (H.cells (i := 0) (by rfl)) (by rfl) (by rfl)) ?_
 refine RL_pure (by exact wn0 rfl) (by rfl) (by rfl) (x_loadA (j := 0) (vs := [.int .i64 a1.Slot, .int .i64 a1.Gen]) ag81 (by rfl) (H.cells (i := 1) (by rfl)) (by rfl) (by rfl)) ?_
 refine RL_cons (O_buildSlice (vs := [(0, .agg #[.int .i64 a1.Slot, .int .i64 a1.Gen])]) (cs := [.int .i64 a1.Slot, .int .i64 a1.Gen]) (by exact wn0 rfl) (by rfl) sl87 sz81 ze81 (by rfl) (by rfl) (by rfl) (by kernel_rfl) H (fun w16 b15 (H : Sep ok w w16 [.blk b9 79 [.slice A1 a0.Arena.Slots.length cp2, .slice A5 a0.Kids.length cp6], .blk b11 81 [.int .i64 a1.Slot, .int .i64 a1.Gen], .blk b13 79 [.slice none 0 0, .slice none 0 0], .blk b15 81 [.int .i64 a1.Slot, .int .i64 a1.Gen]] [RE.rd k_Slot A1 cp2 a0.Arena.Slots, RE.rd (Kd.slice k_Handle) A5 cp6 a0.Kids]) => ?_))
 have H : Sep ok w w16 [.blk b9 79 [.slice A1 a0.Arena.Slots.length cp2, .slice A5 a0.Kids.length cp6], .blk b11 81 [.int .i64 a1.Slot, .int .i64 a1.Gen], .blk b13 79 [.slice none 0 0, .slice none 0 0], .row (.slice (some ⟨b15, 0, none⟩) ([a1]).length 1) 81 k_Handle.sz ([a1]).length [.int .i64 a1.Slot, .int .i64 a1.Gen]] [RE.rd k_Slot A1 cp2 a0.Arena.Slots, RE.rd (Kd.slice k_Handle) A5 cp6 a0.Kids, RE.chunks k_Handle [.int .i64 a1.Slot, .int .i64 a1.Gen] ([a1])] := H.rowOf (i := 3) (D := k_Handle) (xs := [a1]) (by rfl) (by exact ⟨rfl, rfl⟩) (by rfl)
 obtain ⟨v20, hv19, hm⟩ := bind_some hm
 refine RL_cons (O_call (by exact wn0 rfl) (by rfl) (by rfl) (x_callL (by rfl) (args := [.agg #[.slice A1 a0.Arena.Slots.length cp2, .slice A5 a0.Kids.length cp6], .slice (some ⟨b15, 0, none⟩) ([a1]).length 1]) (by rfl) (cf79 _ _)) (c79 okT K w16 a0 A1 cp2 A5 cp6 ([a1]) (some ⟨b15, 0, none⟩) 1 (H.rd (i := 0) (by rfl)).any (H.rd (i := 1) (by rfl)).any (H.rowRd (i := 3) (j := 2) (by rfl) (by rfl)) v20 hv19) ?_)
 rintro e w21 ⟨rfl, H2⟩
 have H : Sep ok w w21 [.blk b9 79 [.slice A1 a0.Arena.Slots.length cp2, .slice A5 a0.Kids.length cp6], .blk b11 81 [.int .i64 a1.Slot, .int .i64 a1.Gen], .blk b13 79 [.slice none 0 0, .slice none 0 0], .row (.slice (some ⟨b15, 0, none⟩) ([a1]).length 1) 81 k_Handle.sz ([a1]).length [.int .i64 a1.Slot, .int .i64 a1.Gen]] [RE.rd k_Slot A1 cp2 a0.Arena.Slots, RE.rd (Kd.slice k_Handle) A5 cp6 a0.Kids, RE.chunks k_Handle [.int .i64 a1.Slot, .int .i64 a1.Gen] ([a1])] := H.below H2.base
 clear H2
 refine ⟨_, rfl, ?_⟩
 show RL _ _ _ _ _ _ _
 refine RL_pure (by exact wn0 rfl) (by rfl) (by rfl) (x_assign (v := .int .i64 v20) (by rfl)) ?_
 refine RL_nil ?_
 refine W_seq ?_
 refine W_region ?_
 refine RL_pure (by exact wn0 rfl) (by rfl) (by rfl) (x_move (v := .int .i64 v20) (by rfl)) ?_
 refine RL_pure (by exact wn0 rfl) (by rfl) (by rfl) (x_neq (by rfl) (by rfl)) ?_
 refine RL_nil ?_
 refine W_cond (by rfl) (fun hb => ?_) (fun hb => ?_)
 ·have hm := cond_t hb hm
  refine W_seq ?_
  refine W_region ?_
  refine RL_pure (by exact wn0 rfl) (by rfl) (by rfl) (x_build (vs := []) (cs := [.slice none 0 0, .slice none 0 0]) (by rfl) (by kernel_rfl)) ?_
  refine RL_pure (by exact wn0 rfl) (by rfl) (by rfl) (x_move (v := .int .i64 v20) (by rfl)) ?_
  refine RL_cons (O_store (i := 2) (off := 0) (by exact wn0 rfl) (by rfl) (by rfl) H (by rfl) (vs := [.slice none 0 0, .slice none 0 0]) (by rfl) sz79 (by rfl) (by rfl) (by rfl) (fun w22 (H : Sep ok w w22 [.blk b9 79 [.slice A1 a0.Arena.Slots.length cp2, .slice A5 a0.Kids.length cp6], .blk b11 81 [.int .i64 a1.Slot, .int .i64 a1.Gen], .blk b13 79 [.slice none 0 0, .slice none 0 0], .row (.slice (some ⟨b15, 0, none⟩) ([a1]).length 1) 81 k_Handle.sz ([a1]).length [.int .i64 a1.Slot, .int .i64 a1.Gen]] [RE.rd k_Slot A1 cp2 a0.Arena.Slots, RE.rd (Kd.slice k_Handle) A5 cp6 a0.Kids, RE.chunks k_Handle [.int .i64 a1.Slot, .int .i64 a1.Gen] ([a1])]) => ?_))
  refine RL_pure (by exact wn0 rfl) (by rfl) (by rfl) (x_assign (v := .int .i64 v20) (by rfl)) ?_
  refine RL_nil ?_
  refine W_ret ?_
  have H : Sep ok w w22 [.blk b9 79 [.slice A1 a0.Arena.Slots.length cp2, .slice A5 a0.Kids.length cp6], .blk b11 81 [.int .i64 a1.Slot, .int .i64 a1.Gen], .blk b13 79 [.slice none 0 0, .slice none 0 0], .row (.slice (some ⟨b15, 0, none⟩) ([a1]).length 1) 81 k_Handle.sz ([a1]).length [.int .i64 a1.Slot, .int .i64 a1.Gen]] [RE.rd k_Slot A1 cp2 a0.Arena.Slots, RE.rd (Kd.slice k_Handle) A5 cp6 a0.Kids, RE.chunks k_Handle [.int .i64 a1.Slot, .int .i64 a1.Gen] ([a1]), RE.fr w.heap.size k_Slot none 0 ([])] := Sep.also H (re := RE.fr w.heap.size k_Slot none 0 ([])) (Rd.nil (by decide))
  have H : Sep ok w w22 [.blk b9 79 [.slice A1 a0.Arena.Slots.length cp2, .slice A5 a0.Kids.length cp6], .blk b11 81 [.int .i64 a1.Slot, .int .i64 a1.Gen], .blk b13 79 [.slice none 0 0, .slice none 0 0], .row (.slice (some ⟨b15, 0, none⟩) ([a1]).length 1) 81 k_Handle.sz ([a1]).length [.int .i64 a1.Slot, .int .i64 a1.Gen]] [RE.rd k_Slot A1 cp2 a0.Arena.Slots, RE.rd (Kd.slice k_Handle) A5 cp6 a0.Kids, RE.chunks k_Handle [.int .i64 a1.Slot, .int .i64 a1.Gen] ([a1]), RE.fr w.heap.size k_Slot none 0 ([]), RE.fr w.heap.size (Kd.slice k_Handle) none 0 ([])] := Sep.also H (re := RE.fr w.heap.size (Kd.slice k_Handle) none 0 ([])) (Rd.nil (by decide))
  obtain rfl := Option.some.inj hm
  exact ⟨[.agg #[.slice none 0 0, .slice none 0 0], .int .i64 v20], (.cellA (by rfl) ag79 (H.cells (i := 2) (by rfl)) (by rfl) (.tmp (by rfl) rfl)), none, 0, none, 0, rfl, (H.forgetAll).pick [3, 4]⟩
 ·have hm := cond_f hb hm
  refine W_skip ?_
  refine W_seq ?_
  refine W_seq ?_
  refine W_region ?_
  refine RL_pure (by exact wn0 rfl) (by rfl) (by rfl) (x_move (v := .int .i64 a2) (by rfl)) ?_
  refine RL_pure (by exact wn0 rfl) (by rfl) (by rfl) (x_lss (by rfl) (by rfl)) ?_
  refine RL_pure (by exact wn0 rfl) (by rfl) (by rfl) (x_move (v := .bool (decide (a2 < 0))) (by rfl)) ?_
  obtain ⟨b25, hmS, hm⟩ := bind_some hm
  refine RL_cut 10 (fun r' w' => Agr [(29, .bool b25), (2, .int .i64 a2), (3, .pointer (some ⟨b9, 0, none⟩)), (4, .pointer (some ⟨b11, 0, none⟩)), (6, .pointer (some ⟨b13, 0, none⟩))] r' ∧ Sep ok w w' [.blk b9 79 [.slice A1 a0.Arena.Slots.length cp2, .slice A5 a0.Kids.length cp6], .blk b11 81 [.int .i64 a1.Slot, .int .i64 a1.Gen], .blk b13 79 [.slice none 0 0, .slice none 0 0], .row (.slice (some ⟨b15, 0, none⟩) ([a1]).length 1) 81 k_Handle.sz ([a1]).length [.int .i64 a1.Slot, .int .i64 a1.Gen]] [RE.rd k_Slot A1 cp2 a0.Arena.Slots, RE.rd (Kd.slice k_Handle) A5 cp6 a0.Kids, RE.chunks k_Handle [.int .i64 a1.Slot, .int .i64 a1.Gen] ([a1])]) ?_ ?_
  ·cases hbS : (decide (a2 < 0))
   ·have hm := cond_f hbS hmS
    refine RL_pure (by exact wn1 rfl rfl rfl rfl) (by rfl) (by rfl) (x_move (v := .int .i64 a2) (by rfl)) ?_
    refine RL_pure (by exact wn1 rfl rfl rfl rfl) (by rfl) (by rfl) (x_fieldAddr fo79_1 (by rfl)) ?_
    refine RL_pure (by exact wn1 rfl rfl rfl rfl) (by rfl) (by rfl) (x_load (j := 1) (v := .slice A5 a0.Kids.length cp6) sc77 (by rfl) (H.cells (i := 0) (by rfl)) (by rfl)) ?_
    refine RL_pure (by exact wn1 rfl rfl rfl rfl) (by rfl) (by rfl) (x_fieldAddr fo81_0 (by rfl)) ?_
    refine RL_pure (by exact wn1 rfl rfl rfl rfl) (by rfl) (by rfl) (x_load (j := 0) (v := .int .i64 a1.Slot) sc3 (by rfl) (H.cells (i := 1) (by rfl)) (by rfl)) ?_
    obtain ⟨el26, h27, h28, he29, hm⟩ := idx_some hm
    obtain ⟨g31, o32, hA30⟩ := (H.rd (i := 1) (by rfl)).addr he29
    obtain ⟨cs33, hk34, hat35, hg_cs33⟩ := (H.rd (i := 1) (by rfl)).openAt hA30 he29
    obtain ⟨A38, cp39, rfl, hR41⟩ := hk34
    have H : Sep ok w w21 [.blk b9 79 [.slice A1 a0.Arena.Slots.length cp2, .slice A5 a0.Kids.length cp6], .blk b11 81 [.int .i64 a1.Slot, .int .i64 a1.Gen], .blk b13 79 [.slice none 0 0, .slice none 0 0], .row (.slice (some ⟨b15, 0, none⟩) ([a1]).length 1) 81 k_Handle.sz ([a1]).length [.int .i64 a1.Slot, .int .i64 a1.Gen]] [RE.rd k_Slot A1 cp2 a0.Arena.Slots, RE.rd (Kd.slice k_Handle) A5 cp6 a0.Kids, RE.chunks k_Handle [.int .i64 a1.Slot, .int .i64 a1.Gen] ([a1]), RE.cells g31 (o32 + (a1.Slot).toNat * 1) [.slice A38 el26.length cp39]] := Sep.also H (re := RE.cells g31 (o32 + (a1.Slot).toNat * 1) [.slice A38 el26.length cp39]) ⟨hg_cs33, hat35⟩
    have H : Sep ok w w21 [.blk b9 79 [.slice A1 a0.Arena.Slots.length cp2, .slice A5 a0.Kids.length cp6], .blk b11 81 [.int .i64 a1.Slot, .int .i64 a1.Gen], .blk b13 79 [.slice none 0 0, .slice none 0 0], .row (.slice (some ⟨b15, 0, none⟩) ([a1]).length 1) 81 k_Handle.sz ([a1]).length [.int .i64 a1.Slot, .int .i64 a1.Gen]] [RE.rd k_Slot A1 cp2 a0.Arena.Slots, RE.rd (Kd.slice k_Handle) A5 cp6 a0.Kids, RE.chunks k_Handle [.int .i64 a1.Slot, .int .i64 a1.Gen] ([a1]), RE.cells g31 (o32 + (a1.Slot).toNat * 1) [.slice A38 el26.length cp39], RE.rd k_Handle A38 cp39 el26] := Sep.also H (re := RE.rd k_Handle A38 cp39 el26) hR41
    refine RL_pure (by exact wn1 rfl rfl rfl rfl) (by rfl) (by rfl) (x_indexAddr sl77 sz87 (by rfl) (by rfl) hA30 h27 h28) ?_
    refine RL_pure (by exact wn1 rfl rfl rfl rfl) (by rfl) (by rfl) (x_load (j := 0) (v := .slice A38 el26.length cp39) sc87 (by rfl) (H.cellsR (i := 3) (by rfl)) (by rfl)) ?_
    refine RL_pure (by exact wn1 rfl rfl rfl rfl) (by rfl) (by rfl) (x_len sl87 (by rfl)) ?_
    refine RL_pure (by exact wn1 rfl rfl rfl rfl) (by rfl) (by rfl) (x_geq (by rfl) (by rfl)) ?_
    refine RL_pure (by exact wn0 rfl) (by rfl) (by rfl) (x_pick_f (v := .bool (decide ((el26.length : Int) ≤ a2))) (by rfl) (by rfl)) ?_
    refine RL_nil ?_
    exact ⟨⟨congrArg Value.bool (Option.some.inj hm), rfl, rfl, rfl, rfl, trivial⟩, (H.takeL 4).takeR 3⟩
   ·have hm := cond_t hbS hmS
    refine RL_cons (OpR_off (by exact wn2 rfl rfl rfl rfl) (by rfl) (by rfl) ?_)
    refine RL_cons (OpR_off (by exact wn2 rfl rfl rfl rfl) (by rfl) (by rfl) ?_)
    refine RL_cons (OpR_off (by exact wn2 rfl rfl rfl rfl) (by rfl) (by rfl) ?_)
    refine RL_cons (OpR_off (by exact wn2 rfl rfl rfl rfl) (by rfl) (by rfl) ?_)
    refine RL_cons (OpR_off (by exact wn2 rfl rfl rfl rfl) (by rfl) (by rfl) ?_)
    refine RL_cons (OpR_off (by exact wn2 rfl rfl rfl rfl) (by rfl) (by rfl) ?_)
    refine RL_cons (OpR_off (by exact wn2 rfl rfl rfl rfl) (by rfl) (by rfl) ?_)
    refine RL_cons (OpR_off (by exact wn2 rfl rfl rfl rfl) (by rfl) (by rfl) ?_)
    refine RL_cons (OpR_off (by exact wn2 rfl rfl rfl rfl) (by rfl) (by rfl) ?_)
    refine RL_pure (by exact wn0 rfl) (by rfl) (by rfl) (x_pick_t (v := .bool true) (by rfl) (by rfl)) ?_
    refine RL_nil ?_
    exact ⟨⟨congrArg Value.bool (Option.some.inj hm), rfl, rfl, rfl, rfl, trivial⟩, H⟩
  ·rintro r' w' ⟨hA, H⟩
   obtain ⟨r43, rfl⟩ := regen _ hA; clear hA
   obtain ⟨w44, rfl⟩ : ∃ W : World, W = w' := ⟨_, rfl⟩
   show RL _ _ _ _ _ _ _
   refine RL_nil ?_
   refine W_cond (by rfl) (fun hb => ?_) (fun hb => ?_)
   ·have hm := cond_t hb hm
    refine W_seq ?_
    refine W_region ?_
    refine RL_pure (by exact wn0 rfl) (by rfl) (by rfl) (x_build (vs := []) (cs := [.slice none 0 0, .slice none 0 0]) (by rfl) (by kernel_rfl)) ?_
    refine RL_cons (O_store (i := 2) (off := 0) (by exact wn0 rfl) (by rfl) (by rfl) H (by rfl) (vs := [.slice none 0 0, .slice none 0 0]) (by rfl) sz79 (by rfl) (by rfl) (by rfl) (fun w45 (H : Sep ok w w45 [.blk b9 79 [.slice A1 a0.Arena.Slots.length cp2, .slice A5 a0.Kids.length cp6], .blk b11 81 [.int .i64 a1.Slot, .int .i64 a1.Gen], .blk b13 79 [.slice none 0 0, .slice none 0 0], .row (.slice (some ⟨b15, 0, none⟩) ([a1]).length 1) 81 k_Handle.sz ([a1]).length [.int .i64 a1.Slot, .int .i64 a1.Gen]] [RE.rd k_Slot A1 cp2 a0.Arena.Slots, RE.rd (Kd.slice k_Handle) A5 cp6 a0.Kids, RE.chunks k_Handle [.int .i64 a1.Slot, .int .i64 a1.Gen] ([a1])]) => ?_))
    refine RL_pure (by exact wn0 rfl) (by rfl) (by rfl) (x_assign (v := .int .i64 2) (by rfl)) ?_
    refine RL_nil ?_
    refine W_ret ?_
    have H : Sep ok w w45 [.blk b9 79 [.slice A1 a0.Arena.Slots.length cp2, .slice A5 a0.Kids.length cp6], .blk b11 81 [.int .i64 a1.Slot, .int .i64 a1.Gen], .blk b13 79 [.slice none 0 0, .slice none 0 0], .row (.slice (some ⟨b15, 0, none⟩) ([a1]).length 1) 81 k_Handle.sz ([a1]).length [.int .i64 a1.Slot, .int .i64 a1.Gen]] [RE.rd k_Slot A1 cp2 a0.Arena.Slots, RE.rd (Kd.slice k_Handle) A5 cp6 a0.Kids, RE.chunks k_Handle [.int .i64 a1.Slot, .int .i64 a1.Gen] ([a1]), RE.fr w.heap.size k_Slot none 0 ([])] := Sep.also H (re := RE.fr w.heap.size k_Slot none 0 ([])) (Rd.nil (by decide))
    have H : Sep ok w w45 [.blk b9 79 [.slice A1 a0.Arena.Slots.length cp2, .slice A5 a0.Kids.length cp6], .blk b11 81 [.int .i64 a1.Slot, .int .i64 a1.Gen], .blk b13 79 [.slice none 0 0, .slice none 0 0], .row (.slice (some ⟨b15, 0, none⟩) ([a1]).length 1) 81 k_Handle.sz ([a1]).length [.int .i64 a1.Slot, .int .i64 a1.Gen]] [RE.rd k_Slot A1 cp2 a0.Arena.Slots, RE.rd (Kd.slice k_Handle) A5 cp6 a0.Kids, RE.chunks k_Handle [.int .i64 a1.Slot, .int .i64 a1.Gen] ([a1]), RE.fr w.heap.size k_Slot none 0 ([]), RE.fr w.heap.size (Kd.slice k_Handle) none 0 ([])] := Sep.also H (re := RE.fr w.heap.size (Kd.slice k_Handle) none 0 ([])) (Rd.nil (by decide))
    obtain rfl := Option.some.inj hm
    exact ⟨[.agg #[.slice none 0 0, .slice none 0 0], .int .i64 2], (.cellA (by rfl) ag79 (H.cells (i := 2) (by rfl)) (by rfl) (.tmp (by rfl) rfl)), none, 0, none, 0, rfl, (H.forgetAll).pick [3, 4]⟩
   ·have hm := cond_f hb hm
    refine W_skip ?_
    refine W_seq ?_
    refine W_region ?_
    refine RL_pure (by exact wn0 rfl) (by rfl) (by rfl) (x_loadA (j := 0) (vs := [.slice A1 a0.Arena.Slots.length cp2, .slice A5 a0.Kids.length cp6]) ag79 (by rfl) (H.cells (i := 0) (by rfl)) (by rfl) (by rfl)) ?_
    unfold tl41 at hm
    obtain ⟨v, hv, hm⟩ := bind_some hm
    have H : Sep ok w _ [.blk b9 79 [.slice A1 a0.Arena.Slots.length cp2, .slice A5 a0.Kids.length cp6], .blk b11 81 [.int .i64 a1.Slot, .int .i64 a1.Gen], .blk b13 79 [.slice none 0 0, .slice none 0 0]] [RE.rd k_Slot A1 cp2 a0.Arena.Slots, RE.rd (Kd.slice k_Handle) A5 cp6 a0.Kids] := (H.takeL 3).pick [0, 1]
    refine RL_cons (O_call (by exact wn0 rfl) (by rfl) (by rfl) (x_callL (by rfl) (args := [.agg #[.slice A1 a0.Arena.Slots.length cp2, .slice A5 a0.Kids.length cp6]]) (by rfl) (cf53 _ _)) (c53x _ K _ a0 A1 cp2 A5 cp6 (H.rd (i := 0) (by rfl)) (H.rd (i := 1) (by rfl)) v hv) ?_)
    rintro e w2 ⟨A2, c2, s2, A3, c3, s3, ls, hls, rfl, H2⟩
    have H : Sep ok w w2 [.blk b9 79 [.slice A1 a0.Arena.Slots.length cp2, .slice A5 a0.Kids.length cp6], .blk b11 81 [.int .i64 a1.Slot, .int .i64 a1.Gen], .blk b13 79 [.slice none 0 0, .slice none 0 0], .row (.slice A2 v.Arena.Slots.length c2) 96 k_Slot.sz v.Arena.Slots.length s2, .row (.slice A3 (ls.map Inn.hd).length c3) 87 kHd.sz (ls.map Inn.hd).length s3, rowsOf 81 k_Handle.sz ls] [RE.rd k_Slot A1 cp2 a0.Arena.Slots, RE.rd (Kd.slice k_Handle) A5 cp6 a0.Kids, RE.chunks k_Slot s2 v.Arena.Slots, RE.chunks kHd s3 (ls.map Inn.hd), RE.inns k_Handle ls] := H.call H2
    clear H2
    refine ⟨_, rfl, ?_⟩
    show RL _ _ _ _ _ _ _
    refine RL_cons (O_store (i := 0) (off := 0) (by exact wn0 rfl) (by rfl) (by rfl) H (by rfl) (vs := [.slice A2 v.Arena.Slots.length c2, .slice A3 (ls.map Inn.hd).length c3]) (by rfl) sz79 (by rfl) (by rfl) (by rfl) (fun w3 (H : Sep ok w w3 [.blk b9 79 [.slice A2 v.Arena.Slots.length c2, .slice A3 (ls.map Inn.hd).length c3], .blk b11 81 [.int .i64 a1.Slot, .int .i64 a1.Gen], .blk b13 79 [.slice none 0 0, .slice none 0 0], .row (.slice A2 v.Arena.Slots.length c2) 96 k_Slot.sz v.Arena.Slots.length s2, .row (.slice A3 (ls.map Inn.hd).length c3) 87 kHd.sz (ls.map Inn.hd).length s3, rowsOf 81 k_Handle.sz ls] [RE.rd k_Slot A1 cp2 a0.Arena.Slots, RE.rd (Kd.slice k_Handle) A5 cp6 a0.Kids, RE.chunks k_Slot s2 v.Arena.Slots, RE.chunks kHd s3 (ls.map Inn.hd), RE.inns k_Handle ls]) => ?_))
    refine RL_nil ?_
    obtain ⟨el, h0, h1, he, hm⟩ := idx_some hm
    by_cases hrange : 0 ≤ a2 ∧ a2 < (el.length : Int)
    rotate_left
    ·rw [if_neg hrange] at hm; cases hm
    rw [if_pos hrange] at hm
    obtain ⟨ha0, ha1⟩ := hrange
    obtain ⟨r, hr, hrx⟩ : ∃ r, ls[a1.Slot.toNat]? = some r ∧ r.xs = el := by
     rw [← hls, List.getElem?_map] at he
     cases hq : ls[a1.Slot.toNat]? with
     | none => rw [hq] at he; cases he
     | some r => rw [hq] at he; exact ⟨r, rfl, Option.some.inj he⟩
    subst hrx
    have hhd : (ls.map Inn.hd)[a1.Slot.toNat]? = some r.hd := by rw [List.getElem?_map, hr]; rfl
    have hlen : ls.length = v.Kids.length := by rw [← hls, List.length_map]
    have h1' : a1.Slot < ((ls.map Inn.hd).length : Int) := by rw [List.length_map, hlen]; exact h1
    obtain ⟨gi, _, hAi, _, _⟩ := H.rowIdx (i := 4) (j := 3) (by rfl) (by rfl) hhd
    have hrow : (Ent.row (.slice r.A r.xs.length r.c) 81 k_Handle.sz r.xs.length r.cs).ok w3 := rowsOf_ok.1 (H.ents 5 _ (by rfl)) r (List.mem_of_getElem? hr)
    have hxc : r.xs.length ≤ 9223372036854775807 := by
     rcases hrow.2 with ⟨_, h⟩ | ⟨_, _, _, _, _, _, h, hcm, _⟩
     ·omega
     ·simp only [maxLen] at hcm; omega
    have hw2 : IntKind.i64.wrap (a2 + 1) = a2 + 1 := wrap_i64_in (by omega)
    refine W_seq ?_
    refine W_draw [.free 0, .take 1, .free 2, .take 3, .free 4, .take 5, .free 6, .take 7, .free 8, .take 9, .free 10, .free 11, .free 12, .run 13, .free 14, .tail 15] (fun wS => Sep ok w wS [.blk b9 79 [.slice A2 v.Arena.Slots.length c2, .slice A3 (ls.map Inn.hd).length c3], .blk b11 81 [.int .i64 a1.Slot, .int .i64 a1.Gen], .blk b13 79 [.slice none 0 0, .slice none 0 0], .row (.slice A2 v.Arena.Slots.length c2) 96 k_Slot.sz v.Arena.Slots.length s2, .row (.slice A3 (ls.map Inn.hd).length c3) 87 kHd.sz (ls.map Inn.hd).length s3] [RE.rd k_Slot A1 cp2 a0.Arena.Slots, RE.rd (Kd.slice k_Handle) A5 cp6 a0.Kids, RE.chunks k_Slot s2 v.Arena.Slots, RE.chunks kHd s3 (ls.map Inn.hd)]) [15] [0, 2, 4, 6, 8, 10, 11, 12, 14] mixed0 (by kernel_rfl) (by kernel_rfl) (by kernel_rfl) (by rfl) (by exact (H.drew.takeL 5).takeR 4) ?_
    obtain ⟨w4, hW⟩ : ∃ W : World, W = { w3 with drawn := w3.drawn + 1 } := ⟨_, rfl⟩
    rw [← hW]
    have H : Sep ok w w4 [.blk b9 79 [.slice A2 v.Arena.Slots.length c2, .slice A3 (ls.map Inn.hd).length c3], .blk b11 81 [.int .i64 a1.Slot, .int .i64 a1.Gen], .blk b13 79 [.slice none 0 0, .slice none 0 0], .row (.slice A2 v.Arena.Slots.length c2) 96 k_Slot.sz v.Arena.Slots.length s2, .row (.slice A3 (ls.map Inn.hd).length c3) 87 kHd.sz (ls.map Inn.hd).length s3, rowsOf 81 k_Handle.sz ls] [RE.rd k_Slot A1 cp2 a0.Arena.Slots, RE.rd (Kd.slice k_Handle) A5 cp6 a0.Kids, RE.chunks k_Slot s2 v.Arena.Slots, RE.chunks kHd s3 (ls.map Inn.hd), RE.inns k_Handle ls] := by rw [hW]; exact H.drew
    clear hW
    refine PR_free (by rfl) (by rfl) (by rfl) (by exact wn0 rfl) (fun wS => (x_fieldAddr fo79_1 (by rfl))) ?_
    refine PR_take (by rfl) (by rfl) (by rfl) (by exact wn0 rfl) (fun wS (H : Sep ok w wS [.blk b9 79 [.slice A2 v.Arena.Slots.length c2, .slice A3 (ls.map Inn.hd).length c3], .blk b11 81 [.int .i64 a1.Slot, .int .i64 a1.Gen], .blk b13 79 [.slice none 0 0, .slice none 0 0], .row (.slice A2 v.Arena.Slots.length c2) 96 k_Slot.sz v.Arena.Slots.length s2, .row (.slice A3 (ls.map Inn.hd).length c3) 87 kHd.sz (ls.map Inn.hd).length s3] [RE.rd k_Slot A1 cp2 a0.Arena.Slots, RE.rd (Kd.slice k_Handle) A5 cp6 a0.Kids, RE.chunks k_Slot s2 v.Arena.Slots, RE.chunks kHd s3 (ls.map Inn.hd)]) => (x_load (j := 1) (v := .slice A3 (ls.map Inn.hd).length c3) sc77 (by rfl) (H.cells (i := 0) (by rfl)) (by rfl))) ?_
    refine PR_free (by rfl) (by rfl) (by rfl) (by exact wn0 rfl) (fun wS => (x_fieldAddr fo81_0 (by rfl))) ?_
    refine PR_take (by rfl) (by rfl) (by rfl) (by exact wn0 rfl) (fun wS (H : Sep ok w wS [.blk b9 79 [.slice A2 v.Arena.Slots.length c2, .slice A3 (ls.map Inn.hd).length c3], .blk b11 81 [.int .i64 a1.Slot, .int .i64 a1.Gen], .blk b13 79 [.slice none 0 0, .slice none 0 0], .row (.slice A2 v.Arena.Slots.length c2) 96 k_Slot.sz v.Arena.Slots.length s2, .row (.slice A3 (ls.map Inn.hd).length c3) 87 kHd.sz (ls.map Inn.hd).length s3] [RE.rd k_Slot A1 cp2 a0.Arena.Slots, RE.rd (Kd.slice k_Handle) A5 cp6 a0.Kids, RE.chunks k_Slot s2 v.Arena.Slots, RE.chunks kHd s3 (ls.map Inn.hd)]) => (x_load (j := 0) (v := .int .i64 a1.Slot) sc3 (by rfl) (H.cells (i := 1) (by rfl)) (by rfl))) ?_
    refine PR_free (by rfl) (by rfl) (by rfl) (by exact wn0 rfl) (fun wS => (x_fieldAddr fo79_1 (by rfl))) ?_
    refine PR_take (by rfl) (by rfl) (by rfl) (by exact wn0 rfl) (fun wS (H : Sep ok w wS [.blk b9 79 [.slice A2 v.Arena.Slots.length c2, .slice A3 (ls.map Inn.hd).length c3], .blk b11 81 [.int .i64 a1.Slot, .int .i64 a1.Gen], .blk b13 79 [.slice none 0 0, .slice none 0 0], .row (.slice A2 v.Arena.Slots.length c2) 96 k_Slot.sz v.Arena.Slots.length s2, .row (.slice A3 (ls.map Inn.hd).length c3) 87 kHd.sz (ls.map Inn.hd).length s3] [RE.rd k_Slot A1 cp2 a0.Arena.Slots, RE.rd (Kd.slice k_Handle) A5 cp6 a0.Kids, RE.chunks k_Slot s2 v.Arena.Slots, RE.chunks kHd s3 (ls.map Inn.hd)]) => (x_load (j := 1) (v := .slice A3 (ls.map Inn.hd).length c3) sc77 (by rfl) (H.cells (i := 0) (by rfl)) (by rfl))) ?_
    refine PR_free (by rfl) (by rfl) (by rfl) (by exact wn0 rfl) (fun wS => (x_fieldAddr fo81_0 (by rfl))) ?_
    refine PR_take (by rfl) (by rfl) (by rfl) (by exact wn0 rfl) (fun wS (H : Sep ok w wS [.blk b9 79 [.slice A2 v.Arena.Slots.length c2, .slice A3 (ls.map Inn.hd).length c3], .blk b11 81 [.int .i64 a1.Slot, .int .i64 a1.Gen], .blk b13 79 [.slice none 0 0, .slice none 0 0], .row (.slice A2 v.Arena.Slots.length c2) 96 k_Slot.sz v.Arena.Slots.length s2, .row (.slice A3 (ls.map Inn.hd).length c3) 87 kHd.sz (ls.map Inn.hd).length s3] [RE.rd k_Slot A1 cp2 a0.Arena.Slots, RE.rd (Kd.slice k_Handle) A5 cp6 a0.Kids, RE.chunks k_Slot s2 v.Arena.Slots, RE.chunks kHd s3 (ls.map Inn.hd)]) => (x_load (j := 0) (v := .int .i64 a1.Slot) sc3 (by rfl) (H.cells (i := 1) (by rfl)) (by rfl))) ?_
    refine PR_free (by rfl) (by rfl) (by rfl) (by exact wn0 rfl) (fun wS => (x_indexAddr sl77 sz87 (by rfl) (by rfl) hAi h0 h1')) ?_
    refine PR_take (by rfl) (by rfl) (by rfl) (by exact wn0 rfl) (fun wS (H : Sep ok w wS [.blk b9 79 [.slice A2 v.Arena.Slots.length c2, .slice A3 (ls.map Inn.hd).length c3], .blk b11 81 [.int .i64 a1.Slot, .int .i64 a1.Gen], .blk b13 79 [.slice none 0 0, .slice none 0 0], .row (.slice A2 v.Arena.Slots.length c2) 96 k_Slot.sz v.Arena.Slots.length s2, .row (.slice A3 (ls.map Inn.hd).length c3) 87 kHd.sz (ls.map Inn.hd).length s3] [RE.rd k_Slot A1 cp2 a0.Arena.Slots, RE.rd (Kd.slice k_Handle) A5 cp6 a0.Kids, RE.chunks k_Slot s2 v.Arena.Slots, RE.chunks kHd s3 (ls.map Inn.hd)]) => (x_load (j := 0) (v := .slice r.A r.xs.length r.c) sc87 (by rfl) (H.rowFlatAt (n := 1) (i := 4) (j := 3) (by rfl) (by rfl) hAi hhd) (by rfl))) ?_
    refine PR_free (by rfl) (by rfl) (by rfl) (by exact wn0 rfl) (fun wS => (x_move (v := .int .i64 a2) (by rfl))) ?_
    refine PR_free (by rfl) (by rfl) (by rfl) (by exact wn0 rfl) (fun wS => (x_move (v := .int .i64 a2) (by rfl))) ?_
    refine PR_free (by rfl) (by rfl) (by rfl) (by exact wn0 rfl) (fun wS => (x_add (by rfl) (by rfl) hw2)) ?_
    have H : Sep ok w w4 [.blk b9 79 [.slice A2 v.Arena.Slots.length c2, .slice A3 (ls.map Inn.hd).length c3], .blk b11 81 [.int .i64 a1.Slot, .int .i64 a1.Gen], .blk b13 79 [.slice none 0 0, .slice none 0 0], .row (.slice A2 v.Arena.Slots.length c2) 96 k_Slot.sz v.Arena.Slots.length s2, .row (.slice A3 (ls.map Inn.hd).length c3) 87 kHd.sz (ls.map Inn.hd).length s3, rowsOf 81 k_Handle.sz (ls.set a1.Slot.toNat Inn.nil), .row (.slice r.A r.xs.length r.c) 81 k_Handle.sz r.xs.length r.cs] [RE.rd k_Slot A1 cp2 a0.Arena.Slots, RE.rd (Kd.slice k_Handle) A5 cp6 a0.Kids, RE.chunks k_Slot s2 v.Arena.Slots, RE.chunks kHd s3 (ls.map Inn.hd), RE.inns k_Handle ls] := H.rowsPull (i := 5) (j := a1.Slot.toNat) (by rfl) hr
    have hrc : Chunks k_Handle w4 (okS ok w [.blk b9 79 [.slice A2 v.Arena.Slots.length c2, .slice A3 (ls.map Inn.hd).length c3], .blk b11 81 [.int .i64 a1.Slot, .int .i64 a1.Gen], .blk b13 79 [.slice none 0 0, .slice none 0 0], .row (.slice A2 v.Arena.Slots.length c2) 96 k_Slot.sz v.Arena.Slots.length s2, .row (.slice A3 (ls.map Inn.hd).length c3) 87 kHd.sz (ls.map Inn.hd).length s3, rowsOf 81 k_Handle.sz (ls.set a1.Slot.toNat Inn.nil), .row (.slice r.A r.xs.length r.c) 81 k_Handle.sz r.xs.length r.cs]) r.cs r.xs := (show (RE.inns k_Handle ls).rel w4 _ from H.rds 4 _ (by rfl)) r (List.mem_of_getElem? hr)
    have HL := H.lend (i := 6) (by rfl)
    have HL := HL.also (re := RE.chunks k_Handle r.cs r.xs) (hrc.flat (fun _ _ _ _ _ _ h => h))
    obtain ⟨l2, hl2⟩ : ∃ l2, r.xs.take a2.toNat ++ r.xs.drop (a2 + 1).toNat = l2 := ⟨_, rfl⟩
    rw [hl2] at hm
    refine PR_run (by rfl) (O_call (by exact wn0 rfl) (by rfl) (by rfl) (x_callL (by rfl) (args := [.slice r.A r.xs.length r.c, .int .i64 a2, .int .i64 (a2 + 1)]) (by rfl) (cf86 _ _)) (c86 _ w4 w4 r.xs a2 (a2 + 1) r.A r.c r.cs HL ha0 (by omega) (by omega) l2 hl2) ?_)
    rintro e w5 ⟨A7, c7, cs7, rfl, HB⟩
    have hcB : Chunks k_Handle w5 _ cs7 l2 := HB.rds 0 _ (by rfl)
    have H : Sep ok w w5 [.blk b9 79 [.slice A2 v.Arena.Slots.length c2, .slice A3 (ls.map Inn.hd).length c3], .blk b11 81 [.int .i64 a1.Slot, .int .i64 a1.Gen], .blk b13 79 [.slice none 0 0, .slice none 0 0], .row (.slice A2 v.Arena.Slots.length c2) 96 k_Slot.sz v.Arena.Slots.length s2, .row (.slice A3 (ls.map Inn.hd).length c3) 87 kHd.sz (ls.map Inn.hd).length s3, rowsOf 81 k_Handle.sz (ls.set a1.Slot.toNat Inn.nil), .row (.slice A7 l2.length c7) 81 k_Handle.sz l2.length cs7] [RE.rd k_Slot A1 cp2 a0.Arena.Slots, RE.rd (Kd.slice k_Handle) A5 cp6 a0.Kids, RE.chunks k_Slot s2 v.Arena.Slots, RE.chunks kHd s3 (ls.map Inn.hd), RE.inns k_Handle ls, RE.chunks k_Handle cs7 l2] := (H.back (i := 6) (by rfl) HB).also (re := RE.chunks k_Handle cs7 l2) (hcB.flat (fun _ _ _ _ _ _ h => h))
    clear HB HL
    refine ⟨_, rfl, (H.takeL 5).takeR 4, ?_⟩
    show PR _ _ _ _ _ _ _ _
    refine PR_free (by rfl) (by rfl) (by rfl) (by exact wn0 rfl) (fun wS => (x_indexAddr sl77 sz87 (by rfl) (by rfl) hAi h0 h1')) ?_
    obtain ⟨ls3, hls3⟩ : ∃ ls3 : List (Inn S_Handle), ls.set a1.Slot.toNat ⟨A7, c7, cs7, l2⟩ = ls3 := ⟨_, rfl⟩
    have hset : (ls.map Inn.hd).set a1.Slot.toNat (A7, l2.length, c7) = ls3.map Inn.hd := by rw [← hls3, List.map_set]; rfl
    have hlen3 : (ls3.map Inn.hd).length = (ls.map Inn.hd).length := by rw [← hset, List.length_set]
    refine PR_tail (by rfl) (O_storeRow (D := kHd) (i := 4) (j := 3) (off := 0) (m := a1.Slot) (a := r.hd) (b := (A7, l2.length, c7)) (vs := [.slice A7 l2.length c7]) (by exact wn0 rfl) H (by rfl) (by rfl) hAi (by rfl) (by rfl) hhd (by rfl) sz87 (by rfl) (by rfl) (by intro ce hce; obtain rfl := hce; rfl) hset (fun w6 s6 (H : Sep ok w w6 [.blk b9 79 [.slice A2 v.Arena.Slots.length c2, .slice A3 (ls.map Inn.hd).length c3], .blk b11 81 [.int .i64 a1.Slot, .int .i64 a1.Gen], .blk b13 79 [.slice none 0 0, .slice none 0 0], .row (.slice A2 v.Arena.Slots.length c2) 96 k_Slot.sz v.Arena.Slots.length s2, .row (.slice A3 (ls3.map Inn.hd).length c3) 87 kHd.sz (ls3.map Inn.hd).length s6, rowsOf 81 k_Handle.sz (ls.set a1.Slot.toNat Inn.nil), .row (.slice A7 l2.length c7) 81 k_Handle.sz l2.length cs7] [RE.rd k_Slot A1 cp2 a0.Arena.Slots, RE.rd (Kd.slice k_Handle) A5 cp6 a0.Kids, RE.chunks k_Slot s2 v.Arena.Slots, RE.chunks kHd s6 (ls3.map Inn.hd), RE.inns k_Handle ls, RE.chunks k_Handle cs7 l2]) => ?_))
    refine PR_nil ?_
    have hin := RE.inns_set (r := (⟨A7, c7, cs7, l2⟩ : Inn S_Handle)) (j := a1.Slot.toNat) (show (RE.inns k_Handle ls).rel w6 _ from H.rds 4 _ (by rfl)) (show (RE.chunks k_Handle cs7 l2).rel w6 _ from H.rds 5 _ (by rfl))
    rw [hls3] at hin
    have H := (H.setRe 4 hin).rowsPut (i := 5) (j := a1.Slot.toNat) (k := 6) (r0 := Inn.nil) (r := ⟨A7, c7, cs7, l2⟩) (by rfl) (by rw [List.getElem?_set_self (by omega)]) (by rfl) (by decide)
    rw [List.set_set, hls3] at H
    have H : Sep ok w w6 [.blk b9 79 [.slice A2 v.Arena.Slots.length c2, .slice A3 (ls.map Inn.hd).length c3], .blk b11 81 [.int .i64 a1.Slot, .int .i64 a1.Gen], .blk b13 79 [.slice none 0 0, .slice none 0 0], .row (.slice A2 v.Arena.Slots.length c2) 96 k_Slot.sz v.Arena.Slots.length s2, .row (.slice A3 (ls3.map Inn.hd).length c3) 87 kHd.sz (ls3.map Inn.hd).length s6, rowsOf 81 k_Handle.sz ls3] [RE.rd k_Slot A1 cp2 a0.Arena.Slots, RE.rd (Kd.slice k_Handle) A5 cp6 a0.Kids, RE.chunks k_Slot s2 v.Arena.Slots, RE.chunks kHd s6 (ls3.map Inn.hd), RE.inns k_Handle ls3] := (H.takeL 6).takeR 5
    have hk3 : ls3.map (·.xs) = v.Kids.set a1.Slot.toNat l2 := by rw [← hls3, List.map_set, hls]
    have hlk : (ls3.map Inn.hd).length = (ls.map Inn.hd).length := by
     have h1 := congrArg List.length hk3
     simp only [List.length_map, List.length_set] at h1 ⊢
     omega
    refine W_seq ?_
    refine W_region ?_
    refine RL_pure (by exact wn0 rfl) (by rfl) (by rfl) (x_loadA (j := 0) (vs := [.slice A2 v.Arena.Slots.length c2, .slice A3 (ls.map Inn.hd).length c3]) ag79 (by rfl) (H.cells (i := 0) (by rfl)) (by rfl) (by rfl)) ?_
    refine RL_cons (O_store (i := 2) (off := 0) (by exact wn0 rfl) (by rfl) (by rfl) H (by rfl) (vs := [.slice A2 v.Arena.Slots.length c2, .slice A3 (ls.map Inn.hd).length c3]) (by rfl) sz79 (by rfl) (by rfl) (by rfl) (fun w7 (H : Sep ok w w7 [.blk b9 79 [.slice A2 v.Arena.Slots.length c2, .slice A3 (ls.map Inn.hd).length c3], .blk b11 81 [.int .i64 a1.Slot, .int .i64 a1.Gen], .blk b13 79 [.slice A2 v.Arena.Slots.length c2, .slice A3 (ls.map Inn.hd).length c3], .row (.slice A2 v.Arena.Slots.length c2) 96 k_Slot.sz v.Arena.Slots.length s2, .row (.slice A3 (ls3.map Inn.hd).length c3) 87 kHd.sz (ls3.map Inn.hd).length s6, rowsOf 81 k_Handle.sz ls3] [RE.rd k_Slot A1 cp2 a0.Arena.Slots, RE.rd (Kd.slice k_Handle) A5 cp6 a0.Kids, RE.chunks k_Slot s2 v.Arena.Slots, RE.chunks kHd s6 (ls3.map Inn.hd), RE.inns k_Handle ls3]) => ?_))
    refine RL_pure (by exact wn0 rfl) (by rfl) (by rfl) (x_assign (v := .int .i64 0) (by rfl)) ?_
    refine RL_nil ?_
    refine W_ret ?_
    have HF : Sep ok w w7 [.blk b9 79 [.slice A2 v.Arena.Slots.length c2, .slice A3 (ls.map Inn.hd).length c3], .blk b11 81 [.int .i64 a1.Slot, .int .i64 a1.Gen], .blk b13 79 [.slice A2 v.Arena.Slots.length c2, .slice A3 (ls.map Inn.hd).length c3], .row (.slice A2 v.Arena.Slots.length c2) 96 k_Slot.sz v.Arena.Slots.length s2, .row (.slice A3 (ls3.map Inn.hd).length c3) 87 kHd.sz (ls3.map Inn.hd).length s6, rowsOf 81 k_Handle.sz ls3] [RE.rd k_Slot A1 cp2 a0.Arena.Slots, RE.rd (Kd.slice k_Handle) A5 cp6 a0.Kids, RE.chunks k_Slot s2 v.Arena.Slots, RE.chunks kHd s6 (ls3.map Inn.hd), RE.inns k_Handle ls3] := H
    have H := H.frozenF hno (fun _ _ _ _ _ _ h => h) (i := 3) (j := 2) (by rfl) (by rfl)
    have H := H.rowsFreeze hno (fun _ _ _ _ _ _ h => h) (i := 5) (o := 4) (j := 3) (q := 4) (l := ls3) (by rfl) (by rw [← (List.length_map Inn.hd : (List.map Inn.hd ls3).length = _)]; rfl) (by rfl) (by rfl) (by decide)
    rw [hk3] at H
    obtain rfl := Option.some.inj hm
    have hkl : (ls.map Inn.hd).length = (v.Kids.set a1.Slot.toNat l2).length := by rw [← hk3, ← hlk, List.length_map, List.length_map]
    exact ⟨[.agg #[.slice A2 v.Arena.Slots.length c2, .slice A3 (ls.map Inn.hd).length c3], .int .i64 0], (.cellA (by rfl) ag79 (HF.cells (i := 2) (by rfl)) (by rfl) (.tmp (by rfl) rfl)), A2, c2, A3, c3, by rw [hkl] <;> rfl, (H.forgetAll).pick [2, 5]⟩

theorem c41 (ok : Okp) (K : Nat) (w : World) (a0 : S_Graph) (A1 : Option Addr) (cp2 : Nat) (A5 : Option Addr) (cp6 : Nat) (a1 : S_Handle) (a2 : Int) (hR3 : Rd k_Slot w ok A1 cp2 a0.Arena.Slots) (hR7 : Rd (Kd.slice k_Handle) w ok A5 cp6 a0.Kids) (res : S_Graph × Int) (hm : m41 K a0 a1 a2 = some res) (hno : ∀ k, ¬ ok.wr k := by intro k hk; exact hk) :
  Calls Try.prog 41 #[.agg #[.slice A1 a0.Arena.Slots.length cp2, .slice A5 a0.Kids.length cp6], .agg #[.int .i64 a1.Slot, .int .i64 a1.Gen], .int .i64 a2] w (fun e w' => ∃ (A0_ : Option Addr) (c0_ : Nat), ∃ (A1_ : Option Addr) (c1_ : Nat), e = .returned (tup [.agg #[.slice A0_ res.1.Arena.Slots.length c0_, .slice A1_ res.1.Kids.length c1_], .int .i64 res.2]) ∧ Sep ok w w' [] [RE.rd k_Slot A0_ c0_ res.1.Arena.Slots, RE.rd (Kd.slice k_Handle) A1_ c1_ res.1.Kids]) :=
 (c41n ok hno K w a0 A1 cp2 A5 cp6 a1 a2 hR3 hR7 res hm).mono fun e w' ⟨A0_, c0_, A1_, c1_, he, H⟩ => ⟨A0_, c0_, A1_, c1_, he, ((H.alsoRd (i := 0) (by rfl)).alsoRd (i := 1) (by rfl)).pick [2, 3]⟩
end Go.Proofs.YtobkigllalbkiaaV.M
