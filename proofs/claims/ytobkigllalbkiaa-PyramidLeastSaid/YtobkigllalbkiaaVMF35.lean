/- A plain Lean function that answers as the Go function does (none: not told), and the proof that a call answers so. Written by program. -/
import Derived.Test.YtobkigllalbkiaaVMTy
import Derived.Test.YtobkigllalbkiaaVMF28
import Derived.Test.YtobkigllalbkiaaVMF30
set_option linter.unusedVariables false
namespace Go.Proofs.YtobkigllalbkiaaV.M
open Go.RowKit Go.Proofs.YtobkigllalbkiaaV
/-- diorama/dioramalaw27.three -/
def m35 (K : Nat)  : Option (S_Frame × Bool) :=
  ((m28 K 3 2 (⟨0, 0, 0, 0⟩ : (Ar4 Int))).bind fun v4 => ((m30 K v4.1 0 0 (⟨600, 0, 0, 0, 0, 0⟩ : S_Frag) (⟨0, 0, 0, 0⟩ : (Ar4 Int))).bind fun v22 => ((m30 K v22.1 1 0 (⟨700, 0, 0, 0, 0, 0⟩ : S_Frag) (⟨0, 0, 0, 0⟩ : (Ar4 Int))).bind fun v38 => ((bif (v4.2 == 0) then some (v22.2 == 0) else some false).bind fun b53 => ((bif b53 then some (v38.2 == 0) else some false).bind fun b56 => some (v38.1, b56))))))
set_option maxRecDepth 100000 in
set_option maxHeartbeats 4000000 in
theorem c35 (ok : Nat → Prop) (K : Nat) (w : World)  (res : S_Frame × Bool) (hm : m35 K  = some res) :
    Calls Try.prog 35 #[] w (fun e w' => ∃ (A0_ : Option Addr) (c0_ : Nat), ∃ (A1_ : Option Addr) (c1_ : Nat), ∃ (A2_ : Option Addr) (c2_ : Nat), ∃ (A3_ : Option Addr) (c3_ : Nat), e = .returned (tup [.agg #[.int .i64 res.1.W, .int .i64 res.1.H, .slice A0_ res.1.Color.length c0_, .slice A1_ res.1.Depth.length c1_, .slice A2_ res.1.Item.length c2_, .slice A3_ res.1.Tri.length c3_], .bool res.2]) ∧ Sep ok w w' [] [RE.rd k_Ar4_Int A0_ c0_ res.1.Color, RE.rd kInt A1_ c1_ res.1.Depth, RE.rd kInt A2_ c2_ res.1.Item, RE.rd kInt A3_ c3_ res.1.Tri]) := by
  refine calls_W (args := []) Try.func35 rfl Try.ntmps35 Try.results35 rfl fun r hr => ?_
  obtain ⟨r1, rfl⟩ : ∃ R, R = r := ⟨_, rfl⟩
  have H : Sep ok w w [] [] := Sep.start ok w
  unfold m35 at hm
  refine W_seq ?_
  refine W_region ?_
  refine RL_cons (O_alloc (by exact wn0 rfl) (by rfl) ze25 (by rfl) H (fun w2 b1 (H : Sep ok w w2 [.blk b1 25 [.int .i64 0, .int .i64 0, .slice none 0 0, .slice none 0 0, .slice none 0 0, .slice none 0 0]] []) => ?_))
  refine RL_pure (by exact wn0 rfl) (by rfl) (by rfl) (x_assign (v := .bool false) (by rfl)) ?_
  refine RL_nil ?_
  refine W_seq ?_
  refine W_region ?_
  refine RL_pure (by exact wn0 rfl) (by rfl) (by rfl) (x_build (vs := []) (cs := [.int .u8 0, .int .u8 0, .int .u8 0, .int .u8 0]) (by rfl) (by kernel_rfl)) ?_
  obtain ⟨v4, hv3, hm⟩ := bind_some hm
  refine RL_cons (O_call (by exact wn0 rfl) (by rfl) (by rfl) (x_callL (by rfl) (args := [.int .i64 3, .int .i64 2, .agg #[.int .u8 0, .int .u8 0, .int .u8 0, .int .u8 0]]) (by rfl) (cf28 _ _)) (c28 (okS ok w [.blk b1 25 [.int .i64 0, .int .i64 0, .slice none 0 0, .slice none 0 0, .slice none 0 0, .slice none 0 0]]) K w2 3 2 (⟨0, 0, 0, 0⟩ : (Ar4 Int))  v4 hv3) ?_)
  rintro e w5 ⟨A6, cp7, A9, cp10, A12, cp13, A15, cp16, rfl, H2⟩
  have H : Sep ok w w5 [.blk b1 25 [.int .i64 0, .int .i64 0, .slice none 0 0, .slice none 0 0, .slice none 0 0, .slice none 0 0]] [RE.rd k_Ar4_Int A6 cp7 v4.1.Color, RE.rd kInt A9 cp10 v4.1.Depth, RE.rd kInt A12 cp13 v4.1.Item, RE.rd kInt A15 cp16 v4.1.Tri] := H.call H2
  clear H2
  refine ⟨_, rfl, ?_⟩
  show RL _ _ _ _ _ _ _
  refine RL_pure (by exact wn0 rfl) (by rfl) (by rfl) (x_move (v := tup [.agg #[.int .i64 v4.1.W, .int .i64 v4.1.H, .slice A6 v4.1.Color.length cp7, .slice A9 v4.1.Depth.length cp10, .slice A12 v4.1.Item.length cp13, .slice A15 v4.1.Tri.length cp16], .int .i64 v4.2]) (by rfl)) ?_
  refine RL_pure (by exact wn0 rfl) (by rfl) (by rfl) (x_extract (v := .agg #[.int .i64 v4.1.W, .int .i64 v4.1.H, .slice A6 v4.1.Color.length cp7, .slice A9 v4.1.Depth.length cp10, .slice A12 v4.1.Item.length cp13, .slice A15 v4.1.Tri.length cp16]) (by rfl) (by rfl)) ?_
  refine RL_pure (by exact wn0 rfl) (by rfl) (by rfl) (x_extract (v := .int .i64 v4.2) (by rfl) (by rfl)) ?_
  refine RL_cons (O_alloc (by exact wn0 rfl) (by rfl) ze25 (by rfl) H (fun w19 b18 (H : Sep ok w w19 [.blk b1 25 [.int .i64 0, .int .i64 0, .slice none 0 0, .slice none 0 0, .slice none 0 0, .slice none 0 0], .blk b18 25 [.int .i64 0, .int .i64 0, .slice none 0 0, .slice none 0 0, .slice none 0 0, .slice none 0 0]] [RE.rd k_Ar4_Int A6 cp7 v4.1.Color, RE.rd kInt A9 cp10 v4.1.Depth, RE.rd kInt A12 cp13 v4.1.Item, RE.rd kInt A15 cp16 v4.1.Tri]) => ?_))
  refine RL_cons (O_store (i := 1) (off := 0) (by exact wn0 rfl) (by rfl) (by rfl) H (by rfl) (vs := [.int .i64 v4.1.W, .int .i64 v4.1.H, .slice A6 v4.1.Color.length cp7, .slice A9 v4.1.Depth.length cp10, .slice A12 v4.1.Item.length cp13, .slice A15 v4.1.Tri.length cp16]) (by rfl) sz25 (by rfl) (by rfl) (by rfl) (fun w20 (H : Sep ok w w20 [.blk b1 25 [.int .i64 0, .int .i64 0, .slice none 0 0, .slice none 0 0, .slice none 0 0, .slice none 0 0], .blk b18 25 [.int .i64 v4.1.W, .int .i64 v4.1.H, .slice A6 v4.1.Color.length cp7, .slice A9 v4.1.Depth.length cp10, .slice A12 v4.1.Item.length cp13, .slice A15 v4.1.Tri.length cp16]] [RE.rd k_Ar4_Int A6 cp7 v4.1.Color, RE.rd kInt A9 cp10 v4.1.Depth, RE.rd kInt A12 cp13 v4.1.Item, RE.rd kInt A15 cp16 v4.1.Tri]) => ?_))
  refine RL_pure (by exact wn0 rfl) (by rfl) (by rfl) (x_assign (v := .int .i64 v4.2) (by rfl)) ?_
  refine RL_nil ?_
  refine W_seq ?_
  refine W_region ?_
  refine RL_pure (by exact wn0 rfl) (by rfl) (by rfl) (x_loadA (j := 0) (vs := [.int .i64 v4.1.W, .int .i64 v4.1.H, .slice A6 v4.1.Color.length cp7, .slice A9 v4.1.Depth.length cp10, .slice A12 v4.1.Item.length cp13, .slice A15 v4.1.Tri.length cp16]) ag25 (by rfl) (H.cells (i := 1) (by rfl)) (by rfl) (by rfl)) ?_
  refine RL_pure (by exact wn0 rfl) (by rfl) (by rfl) (x_build (vs := [(0, .int .i64 600)]) (cs := [.int .i64 600, .int .i64 0, .int .i64 0, .int .i64 0, .int .i64 0, .int .i64 0]) (by rfl) (by kernel_rfl)) ?_
  refine RL_pure (by exact wn0 rfl) (by rfl) (by rfl) (x_build (vs := []) (cs := [.int .u8 0, .int .u8 0, .int .u8 0, .int .u8 0]) (by rfl) (by kernel_rfl)) ?_
  obtain ⟨v22, hv21, hm⟩ := bind_some hm
  refine RL_cons (O_call (by exact wn0 rfl) (by rfl) (by rfl) (x_callL (by rfl) (args := [.agg #[.int .i64 v4.1.W, .int .i64 v4.1.H, .slice A6 v4.1.Color.length cp7, .slice A9 v4.1.Depth.length cp10, .slice A12 v4.1.Item.length cp13, .slice A15 v4.1.Tri.length cp16], .int .i64 0, .int .i64 0, .agg #[.int .i64 600, .int .i64 0, .int .i64 0, .int .i64 0, .int .i64 0, .int .i64 0], .agg #[.int .u8 0, .int .u8 0, .int .u8 0, .int .u8 0]]) (by rfl) (cf30 _ _)) (c30 (okS ok w [.blk b1 25 [.int .i64 0, .int .i64 0, .slice none 0 0, .slice none 0 0, .slice none 0 0, .slice none 0 0], .blk b18 25 [.int .i64 v4.1.W, .int .i64 v4.1.H, .slice A6 v4.1.Color.length cp7, .slice A9 v4.1.Depth.length cp10, .slice A12 v4.1.Item.length cp13, .slice A15 v4.1.Tri.length cp16]]) K w20 v4.1 A6 cp7 A9 cp10 A12 cp13 A15 cp16 0 0 (⟨600, 0, 0, 0, 0, 0⟩ : S_Frag) (⟨0, 0, 0, 0⟩ : (Ar4 Int)) (H.rd (i := 0) (by rfl)) (H.rd (i := 1) (by rfl)) (H.rd (i := 2) (by rfl)) (H.rd (i := 3) (by rfl)) v22 hv21) ?_)
  rintro e w23 ⟨A24, cp25, A27, cp28, A30, cp31, A33, cp34, rfl, H2⟩
  have H : Sep ok w w23 [.blk b1 25 [.int .i64 0, .int .i64 0, .slice none 0 0, .slice none 0 0, .slice none 0 0, .slice none 0 0], .blk b18 25 [.int .i64 v4.1.W, .int .i64 v4.1.H, .slice A6 v4.1.Color.length cp7, .slice A9 v4.1.Depth.length cp10, .slice A12 v4.1.Item.length cp13, .slice A15 v4.1.Tri.length cp16]] [RE.rd k_Ar4_Int A6 cp7 v4.1.Color, RE.rd kInt A9 cp10 v4.1.Depth, RE.rd kInt A12 cp13 v4.1.Item, RE.rd kInt A15 cp16 v4.1.Tri, RE.rd k_Ar4_Int A24 cp25 v22.1.Color, RE.rd kInt A27 cp28 v22.1.Depth, RE.rd kInt A30 cp31 v22.1.Item, RE.rd kInt A33 cp34 v22.1.Tri] := H.call H2
  clear H2
  refine ⟨_, rfl, ?_⟩
  show RL _ _ _ _ _ _ _
  refine RL_pure (by exact wn0 rfl) (by rfl) (by rfl) (x_move (v := tup [.agg #[.int .i64 v22.1.W, .int .i64 v22.1.H, .slice A24 v22.1.Color.length cp25, .slice A27 v22.1.Depth.length cp28, .slice A30 v22.1.Item.length cp31, .slice A33 v22.1.Tri.length cp34], .int .i64 v22.2]) (by rfl)) ?_
  refine RL_pure (by exact wn0 rfl) (by rfl) (by rfl) (x_extract (v := .agg #[.int .i64 v22.1.W, .int .i64 v22.1.H, .slice A24 v22.1.Color.length cp25, .slice A27 v22.1.Depth.length cp28, .slice A30 v22.1.Item.length cp31, .slice A33 v22.1.Tri.length cp34]) (by rfl) (by rfl)) ?_
  refine RL_pure (by exact wn0 rfl) (by rfl) (by rfl) (x_extract (v := .int .i64 v22.2) (by rfl) (by rfl)) ?_
  refine RL_cons (O_store (i := 1) (off := 0) (by exact wn0 rfl) (by rfl) (by rfl) H (by rfl) (vs := [.int .i64 v22.1.W, .int .i64 v22.1.H, .slice A24 v22.1.Color.length cp25, .slice A27 v22.1.Depth.length cp28, .slice A30 v22.1.Item.length cp31, .slice A33 v22.1.Tri.length cp34]) (by rfl) sz25 (by rfl) (by rfl) (by rfl) (fun w36 (H : Sep ok w w36 [.blk b1 25 [.int .i64 0, .int .i64 0, .slice none 0 0, .slice none 0 0, .slice none 0 0, .slice none 0 0], .blk b18 25 [.int .i64 v22.1.W, .int .i64 v22.1.H, .slice A24 v22.1.Color.length cp25, .slice A27 v22.1.Depth.length cp28, .slice A30 v22.1.Item.length cp31, .slice A33 v22.1.Tri.length cp34]] [RE.rd k_Ar4_Int A6 cp7 v4.1.Color, RE.rd kInt A9 cp10 v4.1.Depth, RE.rd kInt A12 cp13 v4.1.Item, RE.rd kInt A15 cp16 v4.1.Tri, RE.rd k_Ar4_Int A24 cp25 v22.1.Color, RE.rd kInt A27 cp28 v22.1.Depth, RE.rd kInt A30 cp31 v22.1.Item, RE.rd kInt A33 cp34 v22.1.Tri]) => ?_))
  refine RL_pure (by exact wn0 rfl) (by rfl) (by rfl) (x_assign (v := .int .i64 v22.2) (by rfl)) ?_
  refine RL_nil ?_
  refine W_seq ?_
  refine W_region ?_
  refine RL_pure (by exact wn0 rfl) (by rfl) (by rfl) (x_loadA (j := 0) (vs := [.int .i64 v22.1.W, .int .i64 v22.1.H, .slice A24 v22.1.Color.length cp25, .slice A27 v22.1.Depth.length cp28, .slice A30 v22.1.Item.length cp31, .slice A33 v22.1.Tri.length cp34]) ag25 (by rfl) (H.cells (i := 1) (by rfl)) (by rfl) (by rfl)) ?_
  refine RL_pure (by exact wn0 rfl) (by rfl) (by rfl) (x_build (vs := [(0, .int .i64 700)]) (cs := [.int .i64 700, .int .i64 0, .int .i64 0, .int .i64 0, .int .i64 0, .int .i64 0]) (by rfl) (by kernel_rfl)) ?_
  refine RL_pure (by exact wn0 rfl) (by rfl) (by rfl) (x_build (vs := []) (cs := [.int .u8 0, .int .u8 0, .int .u8 0, .int .u8 0]) (by rfl) (by kernel_rfl)) ?_
  obtain ⟨v38, hv37, hm⟩ := bind_some hm
  refine RL_cons (O_call (by exact wn0 rfl) (by rfl) (by rfl) (x_callL (by rfl) (args := [.agg #[.int .i64 v22.1.W, .int .i64 v22.1.H, .slice A24 v22.1.Color.length cp25, .slice A27 v22.1.Depth.length cp28, .slice A30 v22.1.Item.length cp31, .slice A33 v22.1.Tri.length cp34], .int .i64 1, .int .i64 0, .agg #[.int .i64 700, .int .i64 0, .int .i64 0, .int .i64 0, .int .i64 0, .int .i64 0], .agg #[.int .u8 0, .int .u8 0, .int .u8 0, .int .u8 0]]) (by rfl) (cf30 _ _)) (c30 (okS ok w [.blk b1 25 [.int .i64 0, .int .i64 0, .slice none 0 0, .slice none 0 0, .slice none 0 0, .slice none 0 0], .blk b18 25 [.int .i64 v22.1.W, .int .i64 v22.1.H, .slice A24 v22.1.Color.length cp25, .slice A27 v22.1.Depth.length cp28, .slice A30 v22.1.Item.length cp31, .slice A33 v22.1.Tri.length cp34]]) K w36 v22.1 A24 cp25 A27 cp28 A30 cp31 A33 cp34 1 0 (⟨700, 0, 0, 0, 0, 0⟩ : S_Frag) (⟨0, 0, 0, 0⟩ : (Ar4 Int)) (H.rd (i := 4) (by rfl)) (H.rd (i := 5) (by rfl)) (H.rd (i := 6) (by rfl)) (H.rd (i := 7) (by rfl)) v38 hv37) ?_)
  rintro e w39 ⟨A40, cp41, A43, cp44, A46, cp47, A49, cp50, rfl, H2⟩
  have H : Sep ok w w39 [.blk b1 25 [.int .i64 0, .int .i64 0, .slice none 0 0, .slice none 0 0, .slice none 0 0, .slice none 0 0], .blk b18 25 [.int .i64 v22.1.W, .int .i64 v22.1.H, .slice A24 v22.1.Color.length cp25, .slice A27 v22.1.Depth.length cp28, .slice A30 v22.1.Item.length cp31, .slice A33 v22.1.Tri.length cp34]] [RE.rd k_Ar4_Int A6 cp7 v4.1.Color, RE.rd kInt A9 cp10 v4.1.Depth, RE.rd kInt A12 cp13 v4.1.Item, RE.rd kInt A15 cp16 v4.1.Tri, RE.rd k_Ar4_Int A24 cp25 v22.1.Color, RE.rd kInt A27 cp28 v22.1.Depth, RE.rd kInt A30 cp31 v22.1.Item, RE.rd kInt A33 cp34 v22.1.Tri, RE.rd k_Ar4_Int A40 cp41 v38.1.Color, RE.rd kInt A43 cp44 v38.1.Depth, RE.rd kInt A46 cp47 v38.1.Item, RE.rd kInt A49 cp50 v38.1.Tri] := H.call H2
  clear H2
  refine ⟨_, rfl, ?_⟩
  show RL _ _ _ _ _ _ _
  refine RL_pure (by exact wn0 rfl) (by rfl) (by rfl) (x_move (v := tup [.agg #[.int .i64 v38.1.W, .int .i64 v38.1.H, .slice A40 v38.1.Color.length cp41, .slice A43 v38.1.Depth.length cp44, .slice A46 v38.1.Item.length cp47, .slice A49 v38.1.Tri.length cp50], .int .i64 v38.2]) (by rfl)) ?_
  refine RL_pure (by exact wn0 rfl) (by rfl) (by rfl) (x_extract (v := .agg #[.int .i64 v38.1.W, .int .i64 v38.1.H, .slice A40 v38.1.Color.length cp41, .slice A43 v38.1.Depth.length cp44, .slice A46 v38.1.Item.length cp47, .slice A49 v38.1.Tri.length cp50]) (by rfl) (by rfl)) ?_
  refine RL_pure (by exact wn0 rfl) (by rfl) (by rfl) (x_extract (v := .int .i64 v38.2) (by rfl) (by rfl)) ?_
  refine RL_cons (O_store (i := 1) (off := 0) (by exact wn0 rfl) (by rfl) (by rfl) H (by rfl) (vs := [.int .i64 v38.1.W, .int .i64 v38.1.H, .slice A40 v38.1.Color.length cp41, .slice A43 v38.1.Depth.length cp44, .slice A46 v38.1.Item.length cp47, .slice A49 v38.1.Tri.length cp50]) (by rfl) sz25 (by rfl) (by rfl) (by rfl) (fun w52 (H : Sep ok w w52 [.blk b1 25 [.int .i64 0, .int .i64 0, .slice none 0 0, .slice none 0 0, .slice none 0 0, .slice none 0 0], .blk b18 25 [.int .i64 v38.1.W, .int .i64 v38.1.H, .slice A40 v38.1.Color.length cp41, .slice A43 v38.1.Depth.length cp44, .slice A46 v38.1.Item.length cp47, .slice A49 v38.1.Tri.length cp50]] [RE.rd k_Ar4_Int A6 cp7 v4.1.Color, RE.rd kInt A9 cp10 v4.1.Depth, RE.rd kInt A12 cp13 v4.1.Item, RE.rd kInt A15 cp16 v4.1.Tri, RE.rd k_Ar4_Int A24 cp25 v22.1.Color, RE.rd kInt A27 cp28 v22.1.Depth, RE.rd kInt A30 cp31 v22.1.Item, RE.rd kInt A33 cp34 v22.1.Tri, RE.rd k_Ar4_Int A40 cp41 v38.1.Color, RE.rd kInt A43 cp44 v38.1.Depth, RE.rd kInt A46 cp47 v38.1.Item, RE.rd kInt A49 cp50 v38.1.Tri]) => ?_))
  refine RL_pure (by exact wn0 rfl) (by rfl) (by rfl) (x_assign (v := .int .i64 v38.2) (by rfl)) ?_
  refine RL_nil ?_
  refine W_seq ?_
  refine W_region ?_
  refine RL_pure (by exact wn0 rfl) (by rfl) (by rfl) (x_loadA (j := 0) (vs := [.int .i64 v38.1.W, .int .i64 v38.1.H, .slice A40 v38.1.Color.length cp41, .slice A43 v38.1.Depth.length cp44, .slice A46 v38.1.Item.length cp47, .slice A49 v38.1.Tri.length cp50]) ag25 (by rfl) (H.cells (i := 1) (by rfl)) (by rfl) (by rfl)) ?_
  refine RL_pure (by exact wn0 rfl) (by rfl) (by rfl) (x_move (v := .int .i64 v4.2) (by rfl)) ?_
  refine RL_pure (by exact wn0 rfl) (by rfl) (by rfl) (x_eql (by rfl) (by rfl)) ?_
  refine RL_pure (by exact wn0 rfl) (by rfl) (by rfl) (x_move (v := .bool (v4.2 == 0)) (by rfl)) ?_
  obtain ⟨b53, hmS, hm⟩ := bind_some hm
  refine RL_cut 3 (fun r' w' => Agr [(31, .bool b53), (0, .pointer (some ⟨b1, 0, none⟩)), (5, .int .i64 v38.2), (25, .agg #[.int .i64 v38.1.W, .int .i64 v38.1.H, .slice A40 v38.1.Color.length cp41, .slice A43 v38.1.Depth.length cp44, .slice A46 v38.1.Item.length cp47, .slice A49 v38.1.Tri.length cp50])] r' ∧ Sep ok w w' [.blk b1 25 [.int .i64 0, .int .i64 0, .slice none 0 0, .slice none 0 0, .slice none 0 0, .slice none 0 0], .blk b18 25 [.int .i64 v38.1.W, .int .i64 v38.1.H, .slice A40 v38.1.Color.length cp41, .slice A43 v38.1.Depth.length cp44, .slice A46 v38.1.Item.length cp47, .slice A49 v38.1.Tri.length cp50]] [RE.rd k_Ar4_Int A6 cp7 v4.1.Color, RE.rd kInt A9 cp10 v4.1.Depth, RE.rd kInt A12 cp13 v4.1.Item, RE.rd kInt A15 cp16 v4.1.Tri, RE.rd k_Ar4_Int A24 cp25 v22.1.Color, RE.rd kInt A27 cp28 v22.1.Depth, RE.rd kInt A30 cp31 v22.1.Item, RE.rd kInt A33 cp34 v22.1.Tri, RE.rd k_Ar4_Int A40 cp41 v38.1.Color, RE.rd kInt A43 cp44 v38.1.Depth, RE.rd kInt A46 cp47 v38.1.Item, RE.rd kInt A49 cp50 v38.1.Tri]) ?_ ?_
  · cases hbS : (v4.2 == 0)
    · have hm := cond_f hbS hmS
      refine RL_cons (OpR_off (by exact wn2 rfl rfl rfl rfl) (by rfl) (by rfl) ?_)
      refine RL_cons (OpR_off (by exact wn2 rfl rfl rfl rfl) (by rfl) (by rfl) ?_)
      refine RL_pure (by exact wn0 rfl) (by rfl) (by rfl) (x_pick_f (v := .bool false) (by rfl) (by rfl)) ?_
      refine RL_nil ?_
      exact ⟨⟨congrArg Value.bool (Option.some.inj hm), rfl, rfl, rfl, trivial⟩, H⟩
    · have hm := cond_t hbS hmS
      refine RL_pure (by exact wn1 rfl rfl rfl rfl) (by rfl) (by rfl) (x_move (v := .int .i64 v22.2) (by rfl)) ?_
      refine RL_pure (by exact wn1 rfl rfl rfl rfl) (by rfl) (by rfl) (x_eql (by rfl) (by rfl)) ?_
      refine RL_pure (by exact wn0 rfl) (by rfl) (by rfl) (x_pick_t (v := .bool (v22.2 == 0)) (by rfl) (by rfl)) ?_
      refine RL_nil ?_
      exact ⟨⟨congrArg Value.bool (Option.some.inj hm), rfl, rfl, rfl, trivial⟩, H⟩
  · rintro r' w' ⟨hA, H⟩
    obtain ⟨r54, rfl⟩ := regen _ hA; clear hA
    obtain ⟨w55, rfl⟩ : ∃ W : World, W = w' := ⟨_, rfl⟩
    show RL _ _ _ _ _ _ _
    refine RL_pure (by exact wn0 rfl) (by rfl) (by rfl) (x_move (v := .bool b53) (by rfl)) ?_
    obtain ⟨b56, hmS, hm⟩ := bind_some hm
    refine RL_cut 3 (fun r' w' => Agr [(35, .bool b56), (0, .pointer (some ⟨b1, 0, none⟩)), (25, .agg #[.int .i64 v38.1.W, .int .i64 v38.1.H, .slice A40 v38.1.Color.length cp41, .slice A43 v38.1.Depth.length cp44, .slice A46 v38.1.Item.length cp47, .slice A49 v38.1.Tri.length cp50])] r' ∧ Sep ok w w' [.blk b1 25 [.int .i64 0, .int .i64 0, .slice none 0 0, .slice none 0 0, .slice none 0 0, .slice none 0 0], .blk b18 25 [.int .i64 v38.1.W, .int .i64 v38.1.H, .slice A40 v38.1.Color.length cp41, .slice A43 v38.1.Depth.length cp44, .slice A46 v38.1.Item.length cp47, .slice A49 v38.1.Tri.length cp50]] [RE.rd k_Ar4_Int A6 cp7 v4.1.Color, RE.rd kInt A9 cp10 v4.1.Depth, RE.rd kInt A12 cp13 v4.1.Item, RE.rd kInt A15 cp16 v4.1.Tri, RE.rd k_Ar4_Int A24 cp25 v22.1.Color, RE.rd kInt A27 cp28 v22.1.Depth, RE.rd kInt A30 cp31 v22.1.Item, RE.rd kInt A33 cp34 v22.1.Tri, RE.rd k_Ar4_Int A40 cp41 v38.1.Color, RE.rd kInt A43 cp44 v38.1.Depth, RE.rd kInt A46 cp47 v38.1.Item, RE.rd kInt A49 cp50 v38.1.Tri]) ?_ ?_
    · cases hbS : b53
      · have hm := cond_f hbS hmS
        refine RL_cons (OpR_off (by exact wn2 rfl rfl rfl rfl) (by rfl) (by rfl) ?_)
        refine RL_cons (OpR_off (by exact wn2 rfl rfl rfl rfl) (by rfl) (by rfl) ?_)
        refine RL_pure (by exact wn0 rfl) (by rfl) (by rfl) (x_pick_f (v := .bool false) (by rfl) (by rfl)) ?_
        refine RL_nil ?_
        exact ⟨⟨congrArg Value.bool (Option.some.inj hm), rfl, rfl, trivial⟩, H⟩
      · have hm := cond_t hbS hmS
        refine RL_pure (by exact wn1 rfl rfl rfl rfl) (by rfl) (by rfl) (x_move (v := .int .i64 v38.2) (by rfl)) ?_
        refine RL_pure (by exact wn1 rfl rfl rfl rfl) (by rfl) (by rfl) (x_eql (by rfl) (by rfl)) ?_
        refine RL_pure (by exact wn0 rfl) (by rfl) (by rfl) (x_pick_t (v := .bool (v38.2 == 0)) (by rfl) (by rfl)) ?_
        refine RL_nil ?_
        exact ⟨⟨congrArg Value.bool (Option.some.inj hm), rfl, rfl, trivial⟩, H⟩
    · rintro r' w' ⟨hA, H⟩
      obtain ⟨r57, rfl⟩ := regen _ hA; clear hA
      obtain ⟨w58, rfl⟩ : ∃ W : World, W = w' := ⟨_, rfl⟩
      show RL _ _ _ _ _ _ _
      refine RL_cons (O_store (i := 0) (off := 0) (by exact wn0 rfl) (by rfl) (by rfl) H (by rfl) (vs := [.int .i64 v38.1.W, .int .i64 v38.1.H, .slice A40 v38.1.Color.length cp41, .slice A43 v38.1.Depth.length cp44, .slice A46 v38.1.Item.length cp47, .slice A49 v38.1.Tri.length cp50]) (by rfl) sz25 (by rfl) (by rfl) (by rfl) (fun w59 (H : Sep ok w w59 [.blk b1 25 [.int .i64 v38.1.W, .int .i64 v38.1.H, .slice A40 v38.1.Color.length cp41, .slice A43 v38.1.Depth.length cp44, .slice A46 v38.1.Item.length cp47, .slice A49 v38.1.Tri.length cp50], .blk b18 25 [.int .i64 v38.1.W, .int .i64 v38.1.H, .slice A40 v38.1.Color.length cp41, .slice A43 v38.1.Depth.length cp44, .slice A46 v38.1.Item.length cp47, .slice A49 v38.1.Tri.length cp50]] [RE.rd k_Ar4_Int A6 cp7 v4.1.Color, RE.rd kInt A9 cp10 v4.1.Depth, RE.rd kInt A12 cp13 v4.1.Item, RE.rd kInt A15 cp16 v4.1.Tri, RE.rd k_Ar4_Int A24 cp25 v22.1.Color, RE.rd kInt A27 cp28 v22.1.Depth, RE.rd kInt A30 cp31 v22.1.Item, RE.rd kInt A33 cp34 v22.1.Tri, RE.rd k_Ar4_Int A40 cp41 v38.1.Color, RE.rd kInt A43 cp44 v38.1.Depth, RE.rd kInt A46 cp47 v38.1.Item, RE.rd kInt A49 cp50 v38.1.Tri]) => ?_))
      refine RL_pure (by exact wn0 rfl) (by rfl) (by rfl) (x_assign (v := .bool b56) (by rfl)) ?_
      refine RL_nil ?_
      refine W_ret ?_
      obtain rfl := Option.some.inj hm
      exact ⟨[.agg #[.int .i64 v38.1.W, .int .i64 v38.1.H, .slice A40 v38.1.Color.length cp41, .slice A43 v38.1.Depth.length cp44, .slice A46 v38.1.Item.length cp47, .slice A49 v38.1.Tri.length cp50], .bool b56], (.cellA (by rfl) ag25 (H.cells (i := 0) (by rfl)) (by rfl) (.tmp (by rfl) rfl)), A40, cp41, A43, cp44, A46, cp47, A49, cp50, rfl, (H.forgetAll).pick [8, 9, 10, 11]⟩
end Go.Proofs.YtobkigllalbkiaaV.M
