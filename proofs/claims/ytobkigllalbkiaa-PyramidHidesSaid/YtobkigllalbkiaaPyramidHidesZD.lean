/- Part 4 of the texts that the proof of PyramidHides stands on. -/
import Derived.Test.YtobkigllalbkiaaPyramidHidesZC
/- A plain Lean function that answers as the Go function does (none: not told), and the proof that a call answers so. Written by program. -/
set_option linter.unusedVariables false
namespace Go.Proofs.YtobkigllalbkiaaV.M
open Go.RowKit Go.Proofs.YtobkigllalbkiaaV
def m30_j1 (K : Nat) (v26 : S_open × Int × Int) (l_row31_1 : (List (Ar4 Int))) (l_row36_1 : (List Int)) (l_row41_1 : (List Int)) (l_row46_1 : (List Int)) : Option (S_Frame × Int) :=
 some ((⟨v26.1.Frame.W, v26.1.Frame.H, l_row31_1, l_row36_1, l_row41_1, l_row46_1⟩ : S_Frame), 0)
/-- diorama/frame.Put -/
def m30 (K : Nat) (a0 : S_Frame) (a1 : Int) (a2 : Int) (a3 : S_Frag) (a4 : (Ar4 Int)) : Option (S_Frame × Int) :=
 ((m69 K a0 a1 a2).bind fun v26 => (bif (v26.2.2 != 0) then some ((⟨0, 0, [], [], [], []⟩ : S_Frame), v26.2.2) else ((m75 K a3.D a3.Item a3.Tri).bind fun v57 => (bif (!v57) then some ((⟨0, 0, [], [], [], []⟩ : S_Frame), 2) else ((m71 K v26.1 v26.2.1).bind fun v67 => ((bif v67 then some true else (idx v26.1.Frame.Depth v26.2.1 fun el70 => (idx v26.1.Frame.Item v26.2.1 fun el77 => (idx v26.1.Frame.Tri v26.2.1 fun el84 => ((m76 K (⟨a3.D, a3.Item, a3.Tri, 0, a3.U, a3.V⟩ : S_Frag) (⟨el70, el77, el84, 0, 0, 0⟩ : S_Frag)).bind fun v92 => some v92))))).bind fun b69 => (bif b69 then (idx v26.1.Frame.Color v26.2.1 fun el97 => (lete (v26.1.Frame.Color.set ((v26.2.1).toNat) a4) fun l106 => (idx v26.1.Frame.Depth v26.2.1 fun el108 => (lete (v26.1.Frame.Depth.set ((v26.2.1).toNat) a3.D) fun l117 => (idx v26.1.Frame.Item v26.2.1 fun el119 => (lete (v26.1.Frame.Item.set ((v26.2.1).toNat) a3.Item) fun l128 => (idx v26.1.Frame.Tri v26.2.1 fun el130 => (lete (v26.1.Frame.Tri.set ((v26.2.1).toNat) a3.Tri) fun l139 => (m30_j1 K v26 l106 l117 l128 l139))))))))) else (m30_j1 K v26 v26.1.Frame.Color v26.1.Frame.Depth v26.1.Frame.Item v26.1.Frame.Tri))))))))
set_option maxRecDepth 100000 in
set_option maxHeartbeats 4000000 in
theorem c30 (ok : Nat → Prop) (K : Nat) (w : World) (a0 : S_Frame) (A1 : Option Addr) (cp2 : Nat) (A5 : Option Addr) (cp6 : Nat) (A9 : Option Addr) (cp10 : Nat) (A13 : Option Addr) (cp14 : Nat) (a1 : Int) (a2 : Int) (a3 : S_Frag) (a4 : (Ar4 Int)) (hR3 : Rd k_Ar4_Int w ok A1 cp2 a0.Color) (hR7 : Rd kInt w ok A5 cp6 a0.Depth) (hR11 : Rd kInt w ok A9 cp10 a0.Item) (hR15 : Rd kInt w ok A13 cp14 a0.Tri) (res : S_Frame × Int) (hm : m30 K a0 a1 a2 a3 a4 = some res) :
  Calls Try.prog 30 #[.agg #[.int .i64 a0.W, .int .i64 a0.H, .slice A1 a0.Color.length cp2, .slice A5 a0.Depth.length cp6, .slice A9 a0.Item.length cp10, .slice A13 a0.Tri.length cp14], .int .i64 a1, .int .i64 a2, .agg #[.int .i64 a3.D, .int .i64 a3.Item, .int .i64 a3.Tri, .int .i64 a3.Part, .int .i64 a3.U, .int .i64 a3.V], .agg #[.int .u8 a4.a0, .int .u8 a4.a1, .int .u8 a4.a2, .int .u8 a4.a3]] w (fun e w' => ∃ (A0_ : Option Addr) (c0_ : Nat), ∃ (A1_ : Option Addr) (c1_ : Nat), ∃ (A2_ : Option Addr) (c2_ : Nat), ∃ (A3_ : Option Addr) (c3_ : Nat), e = .returned (tup [.agg #[.int .i64 res.1.W, .int .i64 res.1.H, .slice A0_ res.1.Color.length c0_, .slice A1_ res.1.Depth.length c1_, .slice A2_ res.1.Item.length c2_, .slice A3_ res.1.Tri.length c3_], .int .i64 res.2]) ∧ Sep ok w w' [] [RE.rd k_Ar4_Int A0_ c0_ res.1.Color, RE.rd kInt A1_ c1_ res.1.Depth, RE.rd kInt A2_ c2_ res.1.Item, RE.rd kInt A3_ c3_ res.1.Tri]) := by
 refine calls_W (args := [.agg #[.int .i64 a0.W, .int .i64 a0.H, .slice A1 a0.Color.length cp2, .slice A5 a0.Depth.length cp6, .slice A9 a0.Item.length cp10, .slice A13 a0.Tri.length cp14], .int .i64 a1, .int .i64 a2, .agg #[.int .i64 a3.D, .int .i64 a3.Item, .int .i64 a3.Tri, .int .i64 a3.Part, .int .i64 a3.U, .int .i64 a3.V], .agg #[.int .u8 a4.a0, .int .u8 a4.a1, .int .u8 a4.a2, .int .u8 a4.a3]]) Try.func30 rfl Try.ntmps30 Try.results30 rfl fun r hr => ?_
 obtain ⟨r1, rfl⟩ := regen (r := r) [(0, .agg #[.int .i64 a0.W, .int .i64 a0.H, .slice A1 a0.Color.length cp2, .slice A5 a0.Depth.length cp6, .slice A9 a0.Item.length cp10, .slice A13 a0.Tri.length cp14]), (1, .int .i64 a1), (2, .int .i64 a2), (3, .agg #[.int .i64 a3.D, .int .i64 a3.Item, .int .i64 a3.Tri, .int .i64 a3.Part, .int .i64 a3.U, .int .i64 a3.V]), (4, .agg #[.int .u8 a4.a0, .int .u8 a4.a1, .int .u8 a4.a2, .int .u8 a4.a3])] ⟨hr 0 _ rfl, hr 1 _ rfl, hr 2 _ rfl, hr 3 _ rfl, hr 4 _ rfl, trivial⟩
 have H : Sep ok w w [] [RE.rd k_Ar4_Int A1 cp2 a0.Color, RE.rd kInt A5 cp6 a0.Depth, RE.rd kInt A9 cp10 a0.Item, RE.rd kInt A13 cp14 a0.Tri] := Sep.arg (Sep.arg (Sep.arg (Sep.arg (Sep.start ok w) (re := RE.rd k_Ar4_Int A1 cp2 a0.Color) rfl rfl hR3) (re := RE.rd kInt A5 cp6 a0.Depth) rfl rfl hR7) (re := RE.rd kInt A9 cp10 a0.Item) rfl rfl hR11) (re := RE.rd kInt A13 cp14 a0.Tri) rfl rfl hR15
 unfold m30 at hm
 refine W_seq ?_
 refine W_region ?_
 refine RL_cons (O_box (by exact wn0 rfl) (by rfl) (by rfl) (by rfl) H (fun w18 b17 (H : Sep ok w w18 [.blk b17 25 [.int .i64 a0.W, .int .i64 a0.H, .slice A1 a0.Color.length cp2, .slice A5 a0.Depth.length cp6, .slice A9 a0.Item.length cp10, .slice A13 a0.Tri.length cp14]] [RE.rd k_Ar4_Int A1 cp2 a0.Color, RE.rd kInt A5 cp6 a0.Depth, RE.rd kInt A9 cp10 a0.Item, RE.rd kInt A13 cp14 a0.Tri]) => ?_))
 refine RL_cons (O_box (by exact wn0 rfl) (by rfl) (by rfl) (by rfl) H (fun w20 b19 (H : Sep ok w w20 [.blk b17 25 [.int .i64 a0.W, .int .i64 a0.H, .slice A1 a0.Color.length cp2, .slice A5 a0.Depth.length cp6, .slice A9 a0.Item.length cp10, .slice A13 a0.Tri.length cp14], .blk b19 68 [.int .i64 a3.D, .int .i64 a3.Item, .int .i64 a3.Tri, .int .i64 a3.Part, .int .i64 a3.U, .int .i64 a3.V]] [RE.rd k_Ar4_Int A1 cp2 a0.Color, RE.rd kInt A5 cp6 a0.Depth, RE.rd kInt A9 cp10 a0.Item, RE.rd kInt A13 cp14 a0.Tri]) => ?_))
 refine RL_cons (O_box (by exact wn0 rfl) (by rfl) (by rfl) (by rfl) H (fun w22 b21 (H : Sep ok w w22 [.blk b17 25 [.int .i64 a0.W, .int .i64 a0.H, .slice A1 a0.Color.length cp2, .slice A5 a0.Depth.length cp6, .slice A9 a0.Item.length cp10, .slice A13 a0.Tri.length cp14], .blk b19 68 [.int .i64 a3.D, .int .i64 a3.Item, .int .i64 a3.Tri, .int .i64 a3.Part, .int .i64 a3.U, .int .i64 a3.V], .blk b21 61 [.int .u8 a4.a0, .int .u8 a4.a1, .int .u8 a4.a2, .int .u8 a4.a3]] [RE.rd k_Ar4_Int A1 cp2 a0.Color, RE.rd kInt A5 cp6 a0.Depth, RE.rd kInt A9 cp10 a0.Item, RE.rd kInt A13 cp14 a0.Tri]) => ?_))
 refine RL_cons (O_alloc (by exact wn0 rfl) (by rfl) ze25 (by rfl) H (fun w24 b23 (H : Sep ok w w24 [.blk b17 25 [.int .i64 a0.W, .int .i64 a0.H, .slice A1 a0.Color.length cp2, .slice A5 a0.Depth.length cp6, .slice A9 a0.Item.length cp10, .slice A13 a0.Tri.length cp14], .blk b19 68 [.int .i64 a3.D, .int .i64 a3.Item, .int .i64 a3.Tri, .int .i64 a3.Part, .int .i64 a3.U, .int .i64 a3.V], .blk b21 61 [.int .u8 a4.a0, .int .u8 a4.a1, .int .u8 a4.a2, .int .u8 a4.a3], .blk b23 25 [.int .i64 0, .int .i64 0, .slice none 0 0, .slice none 0 0, .slice none 0 0, .slice none 0 0]] [RE.rd k_Ar4_Int A1 cp2 a0.Color, RE.rd kInt A5 cp6 a0.Depth, RE.rd kInt A9 cp10 a0.Item, RE.rd kInt A13 cp14 a0.Tri]) => ?_))
 refine RL_pure (by exact wn0 rfl) (by rfl) (by rfl) (x_assign (v := .int .i64 0) (by rfl)) ?_
 refine RL_nil ?_
 refine W_seq ?_
 refine W_region ?_
 refine RL_pure (by exact wn0 rfl) (by rfl) (by rfl) (x_loadA (j := 0) (vs := [.int .i64 a0.W, .int .i64 a0.H, .slice A1 a0.Color.length cp2, .slice A5 a0.Depth.length cp6, .slice A9 a0.Item.length cp10, .slice A13 a0.Tri.length cp14]) ag25 (by rfl) (H.cells (i := 0) (by rfl)) (by rfl) (by rfl)) ?_
 refine RL_pure (by exact wn0 rfl) (by rfl) (by rfl) (x_move (v := .int .i64 a1) (by rfl)) ?_
 refine RL_pure (by exact wn0 rfl) (by rfl) (by rfl) (x_move (v := .int .i64 a2) (by rfl)) ?_
 obtain ⟨v26, hv25, hm⟩ := bind_some hm
 refine RL_cons (O_call (by exact wn0 rfl) (by rfl) (by rfl) (x_callL (by rfl) (args := [.agg #[.int .i64 a0.W, .int .i64 a0.H, .slice A1 a0.Color.length cp2, .slice A5 a0.Depth.length cp6, .slice A9 a0.Item.length cp10, .slice A13 a0.Tri.length cp14], .int .i64 a1, .int .i64 a2]) (by rfl) (cf69 _ _)) (c69 (okS ok w [.blk b17 25 [.int .i64 a0.W, .int .i64 a0.H, .slice A1 a0.Color.length cp2, .slice A5 a0.Depth.length cp6, .slice A9 a0.Item.length cp10, .slice A13 a0.Tri.length cp14], .blk b19 68 [.int .i64 a3.D, .int .i64 a3.Item, .int .i64 a3.Tri, .int .i64 a3.Part, .int .i64 a3.U, .int .i64 a3.V], .blk b21 61 [.int .u8 a4.a0, .int .u8 a4.a1, .int .u8 a4.a2, .int .u8 a4.a3], .blk b23 25 [.int .i64 0, .int .i64 0, .slice none 0 0, .slice none 0 0, .slice none 0 0, .slice none 0 0]]) K w24 a0 A1 cp2 A5 cp6 A9 cp10 A13 cp14 a1 a2 (H.rd (i := 0) (by rfl)) (H.rd (i := 1) (by rfl)) (H.rd (i := 2) (by rfl)) (H.rd (i := 3) (by rfl)) v26 hv25) ?_)
 rintro e w27 ⟨A28, cp29, cs30, A33, cp34, cs35, A38, cp39, cs40, A43, cp44, cs45, rfl, H2⟩
 have H : Sep ok w w27 [.blk b17 25 [.int .i64 a0.W, .int .i64 a0.H, .slice A1 a0.Color.length cp2, .slice A5 a0.Depth.length cp6, .slice A9 a0.Item.length cp10, .slice A13 a0.Tri.length cp14], .blk b19 68 [.int .i64 a3.D, .int .i64 a3.Item, .int .i64 a3.Tri, .int .i64 a3.Part, .int .i64 a3.U, .int .i64 a3.V], .blk b21 61 [.int .u8 a4.a0, .int .u8 a4.a1, .int .u8 a4.a2, .int .u8 a4.a3], .blk b23 25 [.int .i64 0, .int .i64 0, .slice none 0 0, .slice none 0 0, .slice none 0 0, .slice none 0 0], .row (.slice A28 v26.1.Frame.Color.length cp29) 61 k_Ar4_Int.sz v26.1.Frame.Color.length cs30, .row (.slice A33 v26.1.Frame.Depth.length cp34) 3 kInt.sz v26.1.Frame.Depth.length cs35, .row (.slice A38 v26.1.Frame.Item.length cp39) 3 kInt.sz v26.1.Frame.Item.length cs40, .row (.slice A43 v26.1.Frame.Tri.length cp44) 3 kInt.sz v26.1.Frame.Tri.length cs45] [RE.rd k_Ar4_Int A1 cp2 a0.Color, RE.rd kInt A5 cp6 a0.Depth, RE.rd kInt A9 cp10 a0.Item, RE.rd kInt A13 cp14 a0.Tri, RE.chunks k_Ar4_Int cs30 v26.1.Frame.Color, RE.chunks kInt cs35 v26.1.Frame.Depth, RE.chunks kInt cs40 v26.1.Frame.Item, RE.chunks kInt cs45 v26.1.Frame.Tri] := H.call H2
 clear H2
 refine ⟨_, rfl, ?_⟩
 show RL _ _ _ _ _ _ _
 refine RL_pure (by exact wn0 rfl) (by rfl) (by rfl) (x_move (v := tup [.agg #[.int .i64 v26.1.Frame.W, .int .i64 v26.1.Frame.H, .slice A28 v26.1.Frame.Color.length cp29, .slice A33 v26.1.Frame.Depth.length cp34, .slice A38 v26.1.Frame.Item.length cp39, .slice A43 v26.1.Frame.Tri.length cp44], .int .i64 v26.2.1, .int .i64 v26.2.2]) (by rfl)) ?_
 refine RL_pure (by exact wn0 rfl) (by rfl) (by rfl) (x_extract (v := .agg #[.int .i64 v26.1.Frame.W, .int .i64 v26.1.Frame.H, .slice A28 v26.1.Frame.Color.length cp29, .slice A33 v26.1.Frame.Depth.length cp34, .slice A38 v26.1.Frame.Item.length cp39, .slice A43 v26.1.Frame.Tri.length cp44]) (by rfl) (by rfl)) ?_
 refine RL_pure (by exact wn0 rfl) (by rfl) (by rfl) (x_extract (v := .int .i64 v26.2.1) (by rfl) (by rfl)) ?_
 refine RL_pure (by exact wn0 rfl) (by rfl) (by rfl) (x_extract (v := .int .i64 v26.2.2) (by rfl) (by rfl)) ?_
 refine RL_cons (O_alloc (by exact wn0 rfl) (by rfl) ze121 (by rfl) H (fun w49 b48 (H : Sep ok w w49 [.blk b17 25 [.int .i64 a0.W, .int .i64 a0.H, .slice A1 a0.Color.length cp2, .slice A5 a0.Depth.length cp6, .slice A9 a0.Item.length cp10, .slice A13 a0.Tri.length cp14], .blk b19 68 [.int .i64 a3.D, .int .i64 a3.Item, .int .i64 a3.Tri, .int .i64 a3.Part, .int .i64 a3.U, .int .i64 a3.V], .blk b21 61 [.int .u8 a4.a0, .int .u8 a4.a1, .int .u8 a4.a2, .int .u8 a4.a3], .blk b23 25 [.int .i64 0, .int .i64 0, .slice none 0 0, .slice none 0 0, .slice none 0 0, .slice none 0 0], .row (.slice A28 v26.1.Frame.Color.length cp29) 61 k_Ar4_Int.sz v26.1.Frame.Color.length cs30, .row (.slice A33 v26.1.Frame.Depth.length cp34) 3 kInt.sz v26.1.Frame.Depth.length cs35, .row (.slice A38 v26.1.Frame.Item.length cp39) 3 kInt.sz v26.1.Frame.Item.length cs40, .row (.slice A43 v26.1.Frame.Tri.length cp44) 3 kInt.sz v26.1.Frame.Tri.length cs45, .blk b48 121 [.int .i64 0, .int .i64 0, .slice none 0 0, .slice none 0 0, .slice none 0 0, .slice none 0 0]] [RE.rd k_Ar4_Int A1 cp2 a0.Color, RE.rd kInt A5 cp6 a0.Depth, RE.rd kInt A9 cp10 a0.Item, RE.rd kInt A13 cp14 a0.Tri, RE.chunks k_Ar4_Int cs30 v26.1.Frame.Color, RE.chunks kInt cs35 v26.1.Frame.Depth, RE.chunks kInt cs40 v26.1.Frame.Item, RE.chunks kInt cs45 v26.1.Frame.Tri]) => ?_))
 refine RL_cons (O_store (i := 8) (off := 0) (by exact wn0 rfl) (by rfl) (by rfl) H (by rfl) (vs := [.int .i64 v26.1.Frame.W, .int .i64 v26.1.Frame.H, .slice A28 v26.1.Frame.Color.length cp29, .slice A33 v26.1.Frame.Depth.length cp34, .slice A38 v26.1.Frame.Item.length cp39, .slice A43 v26.1.Frame.Tri.length cp44]) (by rfl) sz121 (by rfl) (by rfl) (by rfl) (fun w50 (H : Sep ok w w50 [.blk b17 25 [.int .i64 a0.W, .int .i64 a0.H, .slice A1 a0.Color.length cp2, .slice A5 a0.Depth.length cp6, .slice A9 a0.Item.length cp10, .slice A13 a0.Tri.length cp14], .blk b19 68 [.int .i64 a3.D, .int .i64 a3.Item, .int .i64 a3.Tri, .int .i64 a3.Part, .int .i64 a3.U, .int .i64 a3.V], .blk b21 61 [.int .u8 a4.a0, .int .u8 a4.a1, .int .u8 a4.a2, .int .u8 a4.a3], .blk b23 25 [.int .i64 0, .int .i64 0, .slice none 0 0, .slice none 0 0, .slice none 0 0, .slice none 0 0], .row (.slice A28 v26.1.Frame.Color.length cp29) 61 k_Ar4_Int.sz v26.1.Frame.Color.length cs30, .row (.slice A33 v26.1.Frame.Depth.length cp34) 3 kInt.sz v26.1.Frame.Depth.length cs35, .row (.slice A38 v26.1.Frame.Item.length cp39) 3 kInt.sz v26.1.Frame.Item.length cs40, .row (.slice A43 v26.1.Frame.Tri.length cp44) 3 kInt.sz v26.1.Frame.Tri.length cs45, .blk b48 121 [.int .i64 v26.1.Frame.W, .int .i64 v26.1.Frame.H, .slice A28 v26.1.Frame.Color.length cp29, .slice A33 v26.1.Frame.Depth.length cp34, .slice A38 v26.1.Frame.Item.length cp39, .slice A43 v26.1.Frame.Tri.length cp44]] [RE.rd k_Ar4_Int A1 cp2 a0.Color, RE.rd kInt A5 cp6 a0.Depth, RE.rd kInt A9 cp10 a0.Item, RE.rd kInt A13 cp14 a0.Tri, RE.chunks k_Ar4_Int cs30 v26.1.Frame.Color, RE.chunks kInt cs35 v26.1.Frame.Depth, RE.chunks kInt cs40 v26.1.Frame.Item, RE.chunks kInt cs45 v26.1.Frame.Tri]) => ?_))
 refine RL_pure (by exact wn0 rfl) (by rfl) (by rfl) (x_assign (v := .int .i64 v26.2.1) (by rfl)) ?_
 refine RL_pure (by exact wn0 rfl) (by rfl) (by rfl) (x_assign (v := .int .i64 v26.2.2) (by rfl)) ?_
 refine RL_nil ?_
 refine W_seq ?_
 refine W_seq ?_
 refine W_region ?_
 refine RL_pure (by exact wn0 rfl) (by rfl) (by rfl) (x_move (v := .int .i64 v26.2.2) (by rfl)) ?_
 refine RL_pure (by exact wn0 rfl) (by rfl) (by rfl) (x_neq (by rfl) (by rfl)) ?_
 refine RL_nil ?_
 refine W_cond (by rfl) (fun hb => ?_) (fun hb => ?_)
 ·have hm := cond_t hb hm
  refine W_seq ?_
  refine W_region ?_
  refine RL_pure (by exact wn0 rfl) (by rfl) (by rfl) (x_build (vs := []) (cs := [.int .i64 0, .int .i64 0, .slice none 0 0, .slice none 0 0, .slice none 0 0, .slice none 0 0]) (by rfl) (by kernel_rfl)) ?_
  refine RL_pure (by exact wn0 rfl) (by rfl) (by rfl) (x_move (v := .int .i64 v26.2.2) (by rfl)) ?_
  refine RL_cons (O_store (i := 3) (off := 0) (by exact wn0 rfl) (by rfl) (by rfl) H (by rfl) (vs := [.int .i64 0, .int .i64 0, .slice none 0 0, .slice none 0 0, .slice none 0 0, .slice none 0 0]) (by rfl) sz25 (by rfl) (by rfl) (by rfl) (fun w51 (H : Sep ok w w51 [.blk b17 25 [.int .i64 a0.W, .int .i64 a0.H, .slice A1 a0.Color.length cp2, .slice A5 a0.Depth.length cp6, .slice A9 a0.Item.length cp10, .slice A13 a0.Tri.length cp14], .blk b19 68 [.int .i64 a3.D, .int .i64 a3.Item, .int .i64 a3.Tri, .int .i64 a3.Part, .int .i64 a3.U, .int .i64 a3.V], .blk b21 61 [.int .u8 a4.a0, .int .u8 a4.a1, .int .u8 a4.a2, .int .u8 a4.a3], .blk b23 25 [.int .i64 0, .int .i64 0, .slice none 0 0, .slice none 0 0, .slice none 0 0, .slice none 0 0], .row (.slice A28 v26.1.Frame.Color.length cp29) 61 k_Ar4_Int.sz v26.1.Frame.Color.length cs30, .row (.slice A33 v26.1.Frame.Depth.length cp34) 3 kInt.sz v26.1.Frame.Depth.length cs35, .row (.slice A38 v26.1.Frame.Item.length cp39) 3 kInt.sz v26.1.Frame.Item.length cs40, .row (.slice A43 v26.1.Frame.Tri.length cp44) 3 kInt.sz v26.1.Frame.Tri.length cs45, .blk b48 121 [.int .i64 v26.1.Frame.W, .int .i64 v26.1.Frame.H, .slice A28 v26.1.Frame.Color.length cp29, .slice A33 v26.1.Frame.Depth.length cp34, .slice A38 v26.1.Frame.Item.length cp39, .slice A43 v26.1.Frame.Tri.length cp44]] [RE.rd k_Ar4_Int A1 cp2 a0.Color, RE.rd kInt A5 cp6 a0.Depth, RE.rd kInt A9 cp10 a0.Item, RE.rd kInt A13 cp14 a0.Tri, RE.chunks k_Ar4_Int cs30 v26.1.Frame.Color, RE.chunks kInt cs35 v26.1.Frame.Depth, RE.chunks kInt cs40 v26.1.Frame.Item, RE.chunks kInt cs45 v26.1.Frame.Tri]) => ?_))
  refine RL_pure (by exact wn0 rfl) (by rfl) (by rfl) (x_assign (v := .int .i64 v26.2.2) (by rfl)) ?_
  refine RL_nil ?_
  refine W_ret ?_
  have H : Sep ok w w51 [.blk b17 25 [.int .i64 a0.W, .int .i64 a0.H, .slice A1 a0.Color.length cp2, .slice A5 a0.Depth.length cp6, .slice A9 a0.Item.length cp10, .slice A13 a0.Tri.length cp14], .blk b19 68 [.int .i64 a3.D, .int .i64 a3.Item, .int .i64 a3.Tri, .int .i64 a3.Part, .int .i64 a3.U, .int .i64 a3.V], .blk b21 61 [.int .u8 a4.a0, .int .u8 a4.a1, .int .u8 a4.a2, .int .u8 a4.a3], .blk b23 25 [.int .i64 0, .int .i64 0, .slice none 0 0, .slice none 0 0, .slice none 0 0, .slice none 0 0], .row (.slice A28 v26.1.Frame.Color.length cp29) 61 k_Ar4_Int.sz v26.1.Frame.Color.length cs30, .row (.slice A33 v26.1.Frame.Depth.length cp34) 3 kInt.sz v26.1.Frame.Depth.length cs35, .row (.slice A38 v26.1.Frame.Item.length cp39) 3 kInt.sz v26.1.Frame.Item.length cs40, .row (.slice A43 v26.1.Frame.Tri.length cp44) 3 kInt.sz v26.1.Frame.Tri.length cs45, .blk b48 121 [.int .i64 v26.1.Frame.W, .int .i64 v26.1.Frame.H, .slice A28 v26.1.Frame.Color.length cp29, .slice A33 v26.1.Frame.Depth.length cp34, .slice A38 v26.1.Frame.Item.length cp39, .slice A43 v26.1.Frame.Tri.length cp44]] [RE.rd k_Ar4_Int A1 cp2 a0.Color, RE.rd kInt A5 cp6 a0.Depth, RE.rd kInt A9 cp10 a0.Item, RE.rd kInt A13 cp14 a0.Tri, RE.chunks k_Ar4_Int cs30 v26.1.Frame.Color, RE.chunks kInt cs35 v26.1.Frame.Depth, RE.chunks kInt cs40 v26.1.Frame.Item, RE.chunks kInt cs45 v26.1.Frame.Tri, RE.rd k_Ar4_Int none 0 ([])] := Sep.also H (re := RE.rd k_Ar4_Int none 0 ([])) (Rd.nil (by decide))
  have H : Sep ok w w51 [.blk b17 25 [.int .i64 a0.W, .int .i64 a0.H, .slice A1 a0.Color.length cp2, .slice A5 a0.Depth.length cp6, .slice A9 a0.Item.length cp10, .slice A13 a0.Tri.length cp14], .blk b19 68 [.int .i64 a3.D, .int .i64 a3.Item, .int .i64 a3.Tri, .int .i64 a3.Part, .int .i64 a3.U, .int .i64 a3.V], .blk b21 61 [.int .u8 a4.a0, .int .u8 a4.a1, .int .u8 a4.a2, .int .u8 a4.a3], .blk b23 25 [.int .i64 0, .int .i64 0, .slice none 0 0, .slice none 0 0, .slice none 0 0, .slice none 0 0], .row (.slice A28 v26.1.Frame.Color.length cp29) 61 k_Ar4_Int.sz v26.1.Frame.Color.length cs30, .row (.slice A33 v26.1.Frame.Depth.length cp34) 3 kInt.sz v26.1.Frame.Depth.length cs35, .row (.slice A38 v26.1.Frame.Item.length cp39) 3 kInt.sz v26.1.Frame.Item.length cs40, .row (.slice A43 v26.1.Frame.Tri.length cp44) 3 kInt.sz v26.1.Frame.Tri.length cs45, .blk b48 121 [.int .i64 v26.1.Frame.W, .int .i64 v26.1.Frame.H, .slice A28 v26.1.Frame.Color.length cp29, .slice A33 v26.1.Frame.Depth.length cp34, .slice A38 v26.1.Frame.Item.length cp39, .slice A43 v26.1.Frame.Tri.length cp44]] [RE.rd k_Ar4_Int A1 cp2 a0.Color, RE.rd kInt A5 cp6 a0.Depth, RE.rd kInt A9 cp10 a0.Item, RE.rd kInt A13 cp14 a0.Tri, RE.chunks k_Ar4_Int cs30 v26.1.Frame.Color, RE.chunks kInt cs35 v26.1.Frame.Depth, RE.chunks kInt cs40 v26.1.Frame.Item, RE.chunks kInt cs45 v26.1.Frame.Tri, RE.rd k_Ar4_Int none 0 ([]), RE.rd kInt none 0 ([])] := Sep.also H (re := RE.rd kInt none 0 ([])) (Rd.nil (by decide))
  have H : Sep ok w w51 [.blk b17 25 [.int .i64 a0.W, .int .i64 a0.H, .slice A1 a0.Color.length cp2, .slice A5 a0.Depth.length cp6, .slice A9 a0.Item.length cp10, .slice A13 a0.Tri.length cp14], .blk b19 68 [.int .i64 a3.D, .int .i64 a3.Item, .int .i64 a3.Tri, .int .i64 a3.Part, .int .i64 a3.U, .int .i64 a3.V], .blk b21 61 [.int .u8 a4.a0, .int .u8 a4.a1, .int .u8 a4.a2, .int .u8 a4.a3], .blk b23 25 [.int .i64 0, .int .i64 0, .slice none 0 0, .slice none 0 0, .slice none 0 0, .slice none 0 0], .row (.slice A28 v26.1.Frame.Color.length cp29) 61 k_Ar4_Int.sz v26.1.Frame.Color.length cs30, .row (.slice A33 v26.1.Frame.Depth.length cp34) 3 kInt.sz v26.1.Frame.Depth.length cs35, .row (.slice A38 v26.1.Frame.Item.length cp39) 3 kInt.sz v26.1.Frame.Item.length cs40, .row (.slice A43 v26.1.Frame.Tri.length cp44) 3 kInt.sz v26.1.Frame.Tri.length cs45, .blk b48 121 [.int .i64 v26.1.Frame.W, .int .i64 v26.1.Frame.H, .slice A28 v26.1.Frame.Color.length cp29, .slice A33 v26.1.Frame.Depth.length cp34, .slice A38 v26.1.Frame.Item.length cp39, .slice A43 v26.1.Frame.Tri.length cp44]] [RE.rd k_Ar4_Int A1 cp2 a0.Color, RE.rd kInt A5 cp6 a0.Depth, RE.rd kInt A9 cp10 a0.Item, RE.rd kInt A13 cp14 a0.Tri, RE.chunks k_Ar4_Int cs30 v26.1.Frame.Color, RE.chunks kInt cs35 v26.1.Frame.Depth, RE.chunks kInt cs40 v26.1.Frame.Item, RE.chunks kInt cs45 v26.1.Frame.Tri, RE.rd k_Ar4_Int none 0 ([]), RE.rd kInt none 0 ([]), RE.rd kInt none 0 ([])] := Sep.also H (re := RE.rd kInt none 0 ([])) (Rd.nil (by decide))
  have H : Sep ok w w51 [.blk b17 25 [.int .i64 a0.W, .int .i64 a0.H, .slice A1 a0.Color.length cp2, .slice A5 a0.Depth.length cp6, .slice A9 a0.Item.length cp10, .slice A13 a0.Tri.length cp14], .blk b19 68 [.int .i64 a3.D, .int .i64 a3.Item, .int .i64 a3.Tri, .int .i64 a3.Part, .int .i64 a3.U, .int .i64 a3.V], .blk b21 61 [.int .u8 a4.a0, .int .u8 a4.a1, .int .u8 a4.a2, .int .u8 a4.a3], .blk b23 25 [.int .i64 0, .int .i64 0, .slice none 0 0, .slice none 0 0, .slice none 0 0, .slice none 0 0], .row (.slice A28 v26.1.Frame.Color.length cp29) 61 k_Ar4_Int.sz v26.1.Frame.Color.length cs30, .row (.slice A33 v26.1.Frame.Depth.length cp34) 3 kInt.sz v26.1.Frame.Depth.length cs35, .row (.slice A38 v26.1.Frame.Item.length cp39) 3 kInt.sz v26.1.Frame.Item.length cs40, .row (.slice A43 v26.1.Frame.Tri.length cp44) 3 kInt.sz v26.1.Frame.Tri.length cs45, .blk b48 121 [.int .i64 v26.1.Frame.W, .int .i64 v26.1.Frame.H, .slice A28 v26.1.Frame.Color.length cp29, .slice A33 v26.1.Frame.Depth.length cp34, .slice A38 v26.1.Frame.Item.length cp39, .slice A43 v26.1.Frame.Tri.length cp44]] [RE.rd k_Ar4_Int A1 cp2 a0.Color, RE.rd kInt A5 cp6 a0.Depth, RE.rd kInt A9 cp10 a0.Item, RE.rd kInt A13 cp14 a0.Tri, RE.chunks k_Ar4_Int cs30 v26.1.Frame.Color, RE.chunks kInt cs35 v26.1.Frame.Depth, RE.chunks kInt cs40 v26.1.Frame.Item, RE.chunks kInt cs45 v26.1.Frame.Tri, RE.rd k_Ar4_Int none 0 ([]), RE.rd kInt none 0 ([]), RE.rd kInt none 0 ([]), RE.rd kInt none 0 ([])] := Sep.also H (re := RE.rd kInt none 0 ([])) (Rd.nil (by decide))
  obtain rfl := Option.some.inj hm
  exact ⟨[.agg #[.int .i64 0, .int .i64 0, .slice none 0 0, .slice none 0 0, .slice none 0 0, .slice none 0 0], .int .i64 v26.2.2], (.cellA (by rfl) ag25 (H.cells (i := 3) (by rfl)) (by rfl) (.tmp (by rfl) rfl)), none, 0, none, 0, none, 0, none, 0, rfl, (H.forgetAll).pick [8, 9, 10, 11]⟩
 ·have hm := cond_f hb hm
  refine W_skip ?_
  refine W_seq ?_
  refine W_seq ?_
  refine W_region ?_
  refine RL_pure (by exact wn0 rfl) (by rfl) (by rfl) (x_fieldAddr fo68_0 (by rfl)) ?_
  refine RL_pure (by exact wn0 rfl) (by rfl) (by rfl) (x_load (j := 0) (v := .int .i64 a3.D) sc3 (by rfl) (H.cells (i := 1) (by rfl)) (by rfl)) ?_
  refine RL_pure (by exact wn0 rfl) (by rfl) (by rfl) (x_fieldAddr fo68_1 (by rfl)) ?_
  refine RL_pure (by exact wn0 rfl) (by rfl) (by rfl) (x_load (j := 1) (v := .int .i64 a3.Item) sc3 (by rfl) (H.cells (i := 1) (by rfl)) (by rfl)) ?_
  refine RL_pure (by exact wn0 rfl) (by rfl) (by rfl) (x_fieldAddr fo68_2 (by rfl)) ?_
  refine RL_pure (by exact wn0 rfl) (by rfl) (by rfl) (x_load (j := 2) (v := .int .i64 a3.Tri) sc3 (by rfl) (H.cells (i := 1) (by rfl)) (by rfl)) ?_
  obtain ⟨v57, hv56, hm⟩ := bind_some hm
  refine RL_cons (O_call (by exact wn0 rfl) (by rfl) (by rfl) (x_callL (by rfl) (args := [.int .i64 a3.D, .int .i64 a3.Item, .int .i64 a3.Tri]) (by rfl) (cf75 _ _)) (c75 (fun _ => True) K w50 a3.D a3.Item a3.Tri  v57 hv56) ?_)
  rintro e w58 ⟨rfl, H2⟩
  have H : Sep ok w w58 [.blk b17 25 [.int .i64 a0.W, .int .i64 a0.H, .slice A1 a0.Color.length cp2, .slice A5 a0.Depth.length cp6, .slice A9 a0.Item.length cp10, .slice A13 a0.Tri.length cp14], .blk b19 68 [.int .i64 a3.D, .int .i64 a3.Item, .int .i64 a3.Tri, .int .i64 a3.Part, .int .i64 a3.U, .int .i64 a3.V], .blk b21 61 [.int .u8 a4.a0, .int .u8 a4.a1, .int .u8 a4.a2, .int .u8 a4.a3], .blk b23 25 [.int .i64 0, .int .i64 0, .slice none 0 0, .slice none 0 0, .slice none 0 0, .slice none 0 0], .row (.slice A28 v26.1.Frame.Color.length cp29) 61 k_Ar4_Int.sz v26.1.Frame.Color.length cs30, .row (.slice A33 v26.1.Frame.Depth.length cp34) 3 kInt.sz v26.1.Frame.Depth.length cs35, .row (.slice A38 v26.1.Frame.Item.length cp39) 3 kInt.sz v26.1.Frame.Item.length cs40, .row (.slice A43 v26.1.Frame.Tri.length cp44) 3 kInt.sz v26.1.Frame.Tri.length cs45, .blk b48 121 [.int .i64 v26.1.Frame.W, .int .i64 v26.1.Frame.H, .slice A28 v26.1.Frame.Color.length cp29, .slice A33 v26.1.Frame.Depth.length cp34, .slice A38 v26.1.Frame.Item.length cp39, .slice A43 v26.1.Frame.Tri.length cp44]] [RE.rd k_Ar4_Int A1 cp2 a0.Color, RE.rd kInt A5 cp6 a0.Depth, RE.rd kInt A9 cp10 a0.Item, RE.rd kInt A13 cp14 a0.Tri, RE.chunks k_Ar4_Int cs30 v26.1.Frame.Color, RE.chunks kInt cs35 v26.1.Frame.Depth, RE.chunks kInt cs40 v26.1.Frame.Item, RE.chunks kInt cs45 v26.1.Frame.Tri] := H.below H2.base
  clear H2
  refine ⟨_, rfl, ?_⟩
  show RL _ _ _ _ _ _ _
  refine RL_pure (by exact wn0 rfl) (by rfl) (by rfl) (x_not (by rfl)) ?_
  refine RL_nil ?_
  refine W_cond (by rfl) (fun hb => ?_) (fun hb => ?_)
  ·have hm := cond_t hb hm
   refine W_seq ?_
   refine W_region ?_
   refine RL_pure (by exact wn0 rfl) (by rfl) (by rfl) (x_build (vs := []) (cs := [.int .i64 0, .int .i64 0, .slice none 0 0, .slice none 0 0, .slice none 0 0, .slice none 0 0]) (by rfl) (by kernel_rfl)) ?_
   refine RL_cons (O_store (i := 3) (off := 0) (by exact wn0 rfl) (by rfl) (by rfl) H (by rfl) (vs := [.int .i64 0, .int .i64 0, .slice none 0 0, .slice none 0 0, .slice none 0 0, .slice none 0 0]) (by rfl) sz25 (by rfl) (by rfl) (by rfl) (fun w59 (H : Sep ok w w59 [.blk b17 25 [.int .i64 a0.W, .int .i64 a0.H, .slice A1 a0.Color.length cp2, .slice A5 a0.Depth.length cp6, .slice A9 a0.Item.length cp10, .slice A13 a0.Tri.length cp14], .blk b19 68 [.int .i64 a3.D, .int .i64 a3.Item, .int .i64 a3.Tri, .int .i64 a3.Part, .int .i64 a3.U, .int .i64 a3.V], .blk b21 61 [.int .u8 a4.a0, .int .u8 a4.a1, .int .u8 a4.a2, .int .u8 a4.a3], .blk b23 25 [.int .i64 0, .int .i64 0, .slice none 0 0, .slice none 0 0, .slice none 0 0, .slice none 0 0], .row (.slice A28 v26.1.Frame.Color.length cp29) 61 k_Ar4_Int.sz v26.1.Frame.Color.length cs30, .row (.slice A33 v26.1.Frame.Depth.length cp34) 3 kInt.sz v26.1.Frame.Depth.length cs35, .row (.slice A38 v26.1.Frame.Item.length cp39) 3 kInt.sz v26.1.Frame.Item.length cs40, .row (.slice A43 v26.1.Frame.Tri.length cp44) 3 kInt.sz v26.1.Frame.Tri.length cs45, .blk b48 121 [.int .i64 v26.1.Frame.W, .int .i64 v26.1.Frame.H, .slice A28 v26.1.Frame.Color.length cp29, .slice A33 v26.1.Frame.Depth.length cp34, .slice A38 v26.1.Frame.Item.length cp39, .slice A43 v26.1.Frame.Tri.length cp44]] [RE.rd k_Ar4_Int A1 cp2 a0.Color, RE.rd kInt A5 cp6 a0.Depth, RE.rd kInt A9 cp10 a0.Item, RE.rd kInt A13 cp14 a0.Tri, RE.chunks k_Ar4_Int cs30 v26.1.Frame.Color, RE.chunks kInt cs35 v26.1.Frame.Depth, RE.chunks kInt cs40 v26.1.Frame.Item, RE.chunks kInt cs45 v26.1.Frame.Tri]) => ?_))
   refine RL_pure (by exact wn0 rfl) (by rfl) (by rfl) (x_assign (v := .int .i64 2) (by rfl)) ?_
   refine RL_nil ?_
   refine W_ret ?_
   have H : Sep ok w w59 [.blk b17 25 [.int .i64 a0.W, .int .i64 a0.H, .slice A1 a0.Color.length cp2, .slice A5 a0.Depth.length cp6, .slice A9 a0.Item.length cp10, .slice A13 a0.Tri.length cp14], .blk b19 68 [.int .i64 a3.D, .int .i64 a3.Item, .int .i64 a3.Tri, .int .i64 a3.Part, .int .i64 a3.U, .int .i64 a3.V], .blk b21 61 [.int .u8 a4.a0, .int .u8 a4.a1, .int .u8 a4.a2, .int .u8 a4.a3], .blk b23 25 [.int .i64 0, .int .i64 0, .slice none 0 0, .slice none 0 0, .slice none 0 0, .slice none 0 0], .row (.slice A28 v26.1.Frame.Color.length cp29) 61 k_Ar4_Int.sz v26.1.Frame.Color.length cs30, .row (.slice A33 v26.1.Frame.Depth.length cp34) 3 kInt.sz v26.1.Frame.Depth.length cs35, .row (.slice A38 v26.1.Frame.Item.length cp39) 3 kInt.sz v26.1.Frame.Item.length cs40, .row (.slice A43 v26.1.Frame.Tri.length cp44) 3 kInt.sz v26.1.Frame.Tri.length cs45, .blk b48 121 [.int .i64 v26.1.Frame.W, .int .i64 v26.1.Frame.H, .slice A28 v26.1.Frame.Color.length cp29, .slice A33 v26.1.Frame.Depth.length cp34, .slice A38 v26.1.Frame.Item.length cp39, .slice A43 v26.1.Frame.Tri.length cp44]] [RE.rd k_Ar4_Int A1 cp2 a0.Color, RE.rd kInt A5 cp6 a0.Depth, RE.rd kInt A9 cp10 a0.Item, RE.rd kInt A13 cp14 a0.Tri, RE.chunks k_Ar4_Int cs30 v26.1.Frame.Color, RE.chunks kInt cs35 v26.1.Frame.Depth, RE.chunks kInt cs40 v26.1.Frame.Item, RE.chunks kInt cs45 v26.1.Frame.Tri, RE.rd k_Ar4_Int none 0 ([])] := Sep.also H (re := RE.rd k_Ar4_Int none 0 ([])) (Rd.nil (by decide))
   have H : Sep ok w w59 [.blk b17 25 [.int .i64 a0.W, .int .i64 a0.H, .slice A1 a0.Color.length cp2, .slice A5 a0.Depth.length cp6, .slice A9 a0.Item.length cp10, .slice A13 a0.Tri.length cp14], .blk b19 68 [.int .i64 a3.D, .int .i64 a3.Item, .int .i64 a3.Tri, .int .i64 a3.Part, .int .i64 a3.U, .int .i64 a3.V], .blk b21 61 [.int .u8 a4.a0, .int .u8 a4.a1, .int .u8 a4.a2, .int .u8 a4.a3], .blk b23 25 [.int .i64 0, .int .i64 0, .slice none 0 0, .slice none 0 0, .slice none 0 0, .slice none 0 0], .row (.slice A28 v26.1.Frame.Color.length cp29) 61 k_Ar4_Int.sz v26.1.Frame.Color.length cs30, .row (.slice A33 v26.1.Frame.Depth.length cp34) 3 kInt.sz v26.1.Frame.Depth.length cs35, .row (.slice A38 v26.1.Frame.Item.length cp39) 3 kInt.sz v26.1.Frame.Item.length cs40, .row (.slice A43 v26.1.Frame.Tri.length cp44) 3 kInt.sz v26.1.Frame.Tri.length cs45, .blk b48 121 [.int .i64 v26.1.Frame.W, .int .i64 v26.1.Frame.H, .slice A28 v26.1.Frame.Color.length cp29, .slice A33 v26.1.Frame.Depth.length cp34, .slice A38 v26.1.Frame.Item.length cp39, .slice A43 v26.1.Frame.Tri.length cp44]] [RE.rd k_Ar4_Int A1 cp2 a0.Color, RE.rd kInt A5 cp6 a0.Depth, RE.rd kInt A9 cp10 a0.Item, RE.rd kInt A13 cp14 a0.Tri, RE.chunks k_Ar4_Int cs30 v26.1.Frame.Color, RE.chunks kInt cs35 v26.1.Frame.Depth, RE.chunks kInt cs40 v26.1.Frame.Item, RE.chunks kInt cs45 v26.1.Frame.Tri, RE.rd k_Ar4_Int none 0 ([]), RE.rd kInt none 0 ([])] := Sep.also H (re := RE.rd kInt none 0 ([])) (Rd.nil (by decide))
   have H : Sep ok w w59 [.blk b17 25 [.int .i64 a0.W, .int .i64 a0.H, .slice A1 a0.Color.length cp2, .slice A5 a0.Depth.length cp6, .slice A9 a0.Item.length cp10, .slice A13 a0.Tri.length cp14], .blk b19 68 [.int .i64 a3.D, .int .i64 a3.Item, .int .i64 a3.Tri, .int .i64 a3.Part, .int .i64 a3.U, .int .i64 a3.V], .blk b21 61 [.int .u8 a4.a0, .int .u8 a4.a1, .int .u8 a4.a2, .int .u8 a4.a3], .blk b23 25 [.int .i64 0, .int .i64 0, .slice none 0 0, .slice none 0 0, .slice none 0 0, .slice none 0 0], .row (.slice A28 v26.1.Frame.Color.length cp29) 61 k_Ar4_Int.sz v26.1.Frame.Color.length cs30, .row (.slice A33 v26.1.Frame.Depth.length cp34) 3 kInt.sz v26.1.Frame.Depth.length cs35, .row (.slice A38 v26.1.Frame.Item.length cp39) 3 kInt.sz v26.1.Frame.Item.length cs40, .row (.slice A43 v26.1.Frame.Tri.length cp44) 3 kInt.sz v26.1.Frame.Tri.length cs45, .blk b48 121 [.int .i64 v26.1.Frame.W, .int .i64 v26.1.Frame.H, .slice A28 v26.1.Frame.Color.length cp29, .slice A33 v26.1.Frame.Depth.length cp34, .slice A38 v26.1.Frame.Item.length cp39, .slice A43 v26.1.Frame.Tri.length cp44]] [RE.rd k_Ar4_Int A1 cp2 a0.Color, RE.rd kInt A5 cp6 a0.Depth, RE.rd kInt A9 cp10 a0.Item, RE.rd kInt A13 cp14 a0.Tri, RE.chunks k_Ar4_Int cs30 v26.1.Frame.Color, RE.chunks kInt cs35 v26.1.Frame.Depth, RE.chunks kInt cs40 v26.1.Frame.Item, RE.chunks kInt cs45 v26.1.Frame.Tri, RE.rd k_Ar4_Int none 0 ([]), RE.rd kInt none 0 ([]), RE.rd kInt none 0 ([])] := Sep.also H (re := RE.rd kInt none 0 ([])) (Rd.nil (by decide))
   have H : Sep ok w w59 [.blk b17 25 [.int .i64 a0.W, .int .i64 a0.H, .slice A1 a0.Color.length cp2, .slice A5 a0.Depth.length cp6, .slice A9 a0.Item.length cp10, .slice A13 a0.Tri.length cp14], .blk b19 68 [.int .i64 a3.D, .int .i64 a3.Item, .int .i64 a3.Tri, .int .i64 a3.Part, .int .i64 a3.U, .int .i64 a3.V], .blk b21 61 [.int .u8 a4.a0, .int .u8 a4.a1, .int .u8 a4.a2, .int .u8 a4.a3], .blk b23 25 [.int .i64 0, .int .i64 0, .slice none 0 0, .slice none 0 0, .slice none 0 0, .slice none 0 0], .row (.slice A28 v26.1.Frame.Color.length cp29) 61 k_Ar4_Int.sz v26.1.Frame.Color.length cs30, .row (.slice A33 v26.1.Frame.Depth.length cp34) 3 kInt.sz v26.1.Frame.Depth.length cs35, .row (.slice A38 v26.1.Frame.Item.length cp39) 3 kInt.sz v26.1.Frame.Item.length cs40, .row (.slice A43 v26.1.Frame.Tri.length cp44) 3 kInt.sz v26.1.Frame.Tri.length cs45, .blk b48 121 [.int .i64 v26.1.Frame.W, .int .i64 v26.1.Frame.H, .slice A28 v26.1.Frame.Color.length cp29, .slice A33 v26.1.Frame.Depth.length cp34, .slice A38 v26.1.Frame.Item.length cp39, .slice A43 v26.1.Frame.Tri.length cp44]] [RE.rd k_Ar4_Int A1 cp2 a0.Color, RE.rd kInt A5 cp6 a0.Depth, RE.rd kInt A9 cp10 a0.Item, RE.rd kInt A13 cp14 a0.Tri, RE.chunks k_Ar4_Int cs30 v26.1.Frame.Color, RE.chunks kInt cs35 v26.1.Frame.Depth, RE.chunks kInt cs40 v26.1.Frame.Item, RE.chunks kInt cs45 v26.1.Frame.Tri, RE.rd k_Ar4_Int none 0 ([]), RE.rd kInt none 0 ([]), RE.rd kInt none 0 ([]), RE.rd kInt none 0 ([])] := Sep.also H (re := RE.rd kInt none 0 ([])) (Rd.nil (by decide))
   obtain rfl := Option.some.inj hm
   exact ⟨[.agg #[.int .i64 0, .int .i64 0, .slice none 0 0, .slice none 0 0, .slice none 0 0, .slice none 0 0], .int .i64 2], (.cellA (by rfl) ag25 (H.cells (i := 3) (by rfl)) (by rfl) (.tmp (by rfl) rfl)), none, 0, none, 0, none, 0, none, 0, rfl, (H.forgetAll).pick [8, 9, 10, 11]⟩
  ·have hm := cond_f hb hm
   refine W_skip ?_
   refine W_seq ?_
   refine W_region ?_
   refine RL_pure (by exact wn0 rfl) (by rfl) (by rfl) (x_fieldAddr fo68_3 (by rfl)) ?_
   refine RL_cons (O_store (i := 1) (off := 3) (by exact wn0 rfl) (by rfl) (by rfl) H (by rfl) (vs := [.int .i64 0]) (by rfl) sz3 (by rfl) (by rfl) (by rfl) (fun w64 (H : Sep ok w w64 [.blk b17 25 [.int .i64 a0.W, .int .i64 a0.H, .slice A1 a0.Color.length cp2, .slice A5 a0.Depth.length cp6, .slice A9 a0.Item.length cp10, .slice A13 a0.Tri.length cp14], .blk b19 68 [.int .i64 a3.D, .int .i64 a3.Item, .int .i64 a3.Tri, .int .i64 0, .int .i64 a3.U, .int .i64 a3.V], .blk b21 61 [.int .u8 a4.a0, .int .u8 a4.a1, .int .u8 a4.a2, .int .u8 a4.a3], .blk b23 25 [.int .i64 0, .int .i64 0, .slice none 0 0, .slice none 0 0, .slice none 0 0, .slice none 0 0], .row (.slice A28 v26.1.Frame.Color.length cp29) 61 k_Ar4_Int.sz v26.1.Frame.Color.length cs30, .row (.slice A33 v26.1.Frame.Depth.length cp34) 3 kInt.sz v26.1.Frame.Depth.length cs35, .row (.slice A38 v26.1.Frame.Item.length cp39) 3 kInt.sz v26.1.Frame.Item.length cs40, .row (.slice A43 v26.1.Frame.Tri.length cp44) 3 kInt.sz v26.1.Frame.Tri.length cs45, .blk b48 121 [.int .i64 v26.1.Frame.W, .int .i64 v26.1.Frame.H, .slice A28 v26.1.Frame.Color.length cp29, .slice A33 v26.1.Frame.Depth.length cp34, .slice A38 v26.1.Frame.Item.length cp39, .slice A43 v26.1.Frame.Tri.length cp44]] [RE.rd k_Ar4_Int A1 cp2 a0.Color, RE.rd kInt A5 cp6 a0.Depth, RE.rd kInt A9 cp10 a0.Item, RE.rd kInt A13 cp14 a0.Tri, RE.chunks k_Ar4_Int cs30 v26.1.Frame.Color, RE.chunks kInt cs35 v26.1.Frame.Depth, RE.chunks kInt cs40 v26.1.Frame.Item, RE.chunks kInt cs45 v26.1.Frame.Tri]) => ?_))
   refine RL_nil ?_
   refine W_join (fun r' w' => ∃ (l_row31_1 : (List (Ar4 Int))), ∃ (l_row36_1 : (List Int)), ∃ (l_row41_1 : (List Int)), ∃ (l_row46_1 : (List Int)), ∃ (A_row31_1 : Option Addr), ∃ (c_row31_1 : Nat), ∃ (cs_row31_1 : List Value), ∃ (A_row36_1 : Option Addr), ∃ (c_row36_1 : Nat), ∃ (cs_row36_1 : List Value), ∃ (A_row41_1 : Option Addr), ∃ (c_row41_1 : Nat), ∃ (cs_row41_1 : List Value), ∃ (A_row46_1 : Option Addr), ∃ (c_row46_1 : Nat), ∃ (cs_row46_1 : List Value), m30_j1 K v26 l_row31_1 l_row36_1 l_row41_1 l_row46_1 = some res ∧ Agr [(10, .pointer (some ⟨b23, 0, none⟩)), (12, .pointer (some ⟨b48, 0, none⟩))] r' ∧ Sep ok w w' [.blk b17 25 [.int .i64 a0.W, .int .i64 a0.H, .slice A1 a0.Color.length cp2, .slice A5 a0.Depth.length cp6, .slice A9 a0.Item.length cp10, .slice A13 a0.Tri.length cp14], .blk b19 68 [.int .i64 a3.D, .int .i64 a3.Item, .int .i64 a3.Tri, .int .i64 0, .int .i64 a3.U, .int .i64 a3.V], .blk b21 61 [.int .u8 a4.a0, .int .u8 a4.a1, .int .u8 a4.a2, .int .u8 a4.a3], .blk b23 25 [.int .i64 0, .int .i64 0, .slice none 0 0, .slice none 0 0, .slice none 0 0, .slice none 0 0], .row (.slice A_row31_1 l_row31_1.length c_row31_1) 61 k_Ar4_Int.sz l_row31_1.length cs_row31_1, .row (.slice A_row36_1 l_row36_1.length c_row36_1) 3 kInt.sz l_row36_1.length cs_row36_1, .row (.slice A_row41_1 l_row41_1.length c_row41_1) 3 kInt.sz l_row41_1.length cs_row41_1, .row (.slice A_row46_1 l_row46_1.length c_row46_1) 3 kInt.sz l_row46_1.length cs_row46_1, .blk b48 121 [.int .i64 v26.1.Frame.W, .int .i64 v26.1.Frame.H, .slice A_row31_1 l_row31_1.length c_row31_1, .slice A_row36_1 l_row36_1.length c_row36_1, .slice A_row41_1 l_row41_1.length c_row41_1, .slice A_row46_1 l_row46_1.length c_row46_1]] [RE.rd k_Ar4_Int A1 cp2 a0.Color, RE.rd kInt A5 cp6 a0.Depth, RE.rd kInt A9 cp10 a0.Item, RE.rd kInt A13 cp14 a0.Tri, RE.chunks k_Ar4_Int cs_row31_1 l_row31_1, RE.chunks kInt cs_row36_1 l_row36_1, RE.chunks kInt cs_row41_1 l_row41_1, RE.chunks kInt cs_row46_1 l_row46_1]) ?_ ?_
   ·show W _ _ _ _ _ _
    refine W_seq ?_
    refine W_draw [.take 0, .free 1, .run 2, .free 3, .take 4, .free 5, .free 6, .take 7, .free 8, .free 9, .take 10, .free 11, .free 12, .take 13, .free 14, .free 15, .take 16, .free 17, .free 18, .take 19, .free 20, .free 21, .take 22, .free 23, .run 24, .free 25] (fun wS => Sep ok w wS [.blk b17 25 [.int .i64 a0.W, .int .i64 a0.H, .slice A1 a0.Color.length cp2, .slice A5 a0.Depth.length cp6, .slice A9 a0.Item.length cp10, .slice A13 a0.Tri.length cp14], .blk b19 68 [.int .i64 a3.D, .int .i64 a3.Item, .int .i64 a3.Tri, .int .i64 0, .int .i64 a3.U, .int .i64 a3.V], .blk b21 61 [.int .u8 a4.a0, .int .u8 a4.a1, .int .u8 a4.a2, .int .u8 a4.a3], .blk b23 25 [.int .i64 0, .int .i64 0, .slice none 0 0, .slice none 0 0, .slice none 0 0, .slice none 0 0], .row (.slice A28 v26.1.Frame.Color.length cp29) 61 k_Ar4_Int.sz v26.1.Frame.Color.length cs30, .row (.slice A33 v26.1.Frame.Depth.length cp34) 3 kInt.sz v26.1.Frame.Depth.length cs35, .row (.slice A38 v26.1.Frame.Item.length cp39) 3 kInt.sz v26.1.Frame.Item.length cs40, .row (.slice A43 v26.1.Frame.Tri.length cp44) 3 kInt.sz v26.1.Frame.Tri.length cs45, .blk b48 121 [.int .i64 v26.1.Frame.W, .int .i64 v26.1.Frame.H, .slice A28 v26.1.Frame.Color.length cp29, .slice A33 v26.1.Frame.Depth.length cp34, .slice A38 v26.1.Frame.Item.length cp39, .slice A43 v26.1.Frame.Tri.length cp44]] [RE.rd k_Ar4_Int A1 cp2 a0.Color, RE.rd kInt A5 cp6 a0.Depth, RE.rd kInt A9 cp10 a0.Item, RE.rd kInt A13 cp14 a0.Tri, RE.chunks k_Ar4_Int cs30 v26.1.Frame.Color, RE.chunks kInt cs35 v26.1.Frame.Depth, RE.chunks kInt cs40 v26.1.Frame.Item, RE.chunks kInt cs45 v26.1.Frame.Tri]) [] [1, 3, 5, 6, 8, 9, 11, 12, 14, 15, 17, 18, 20, 21, 23, 25] mixed0 (by kernel_rfl) (by kernel_rfl) (by kernel_rfl) (by rfl) (by exact H.drew) ?_
    obtain ⟨w65, hW⟩ : ∃ W : World, W = { w64 with drawn := w64.drawn + 1 } := ⟨_, rfl⟩
    rw [← hW]
    have H : Sep ok w w65 [.blk b17 25 [.int .i64 a0.W, .int .i64 a0.H, .slice A1 a0.Color.length cp2, .slice A5 a0.Depth.length cp6, .slice A9 a0.Item.length cp10, .slice A13 a0.Tri.length cp14], .blk b19 68 [.int .i64 a3.D, .int .i64 a3.Item, .int .i64 a3.Tri, .int .i64 0, .int .i64 a3.U, .int .i64 a3.V], .blk b21 61 [.int .u8 a4.a0, .int .u8 a4.a1, .int .u8 a4.a2, .int .u8 a4.a3], .blk b23 25 [.int .i64 0, .int .i64 0, .slice none 0 0, .slice none 0 0, .slice none 0 0, .slice none 0 0], .row (.slice A28 v26.1.Frame.Color.length cp29) 61 k_Ar4_Int.sz v26.1.Frame.Color.length cs30, .row (.slice A33 v26.1.Frame.Depth.length cp34) 3 kInt.sz v26.1.Frame.Depth.length cs35, .row (.slice A38 v26.1.Frame.Item.length cp39) 3 kInt.sz v26.1.Frame.Item.length cs40, .row (.slice A43 v26.1.Frame.Tri.length cp44) 3 kInt.sz v26.1.Frame.Tri.length cs45, .blk b48 121 [.int .i64 v26.1.Frame.W, .int .i64 v26.1.Frame.H, .slice A28 v26.1.Frame.Color.length cp29, .slice A33 v26.1.Frame.Depth.length cp34, .slice A38 v26.1.Frame.Item.length cp39, .slice A43 v26.1.Frame.Tri.length cp44]] [RE.rd k_Ar4_Int A1 cp2 a0.Color, RE.rd kInt A5 cp6 a0.Depth, RE.rd kInt A9 cp10 a0.Item, RE.rd kInt A13 cp14 a0.Tri, RE.chunks k_Ar4_Int cs30 v26.1.Frame.Color, RE.chunks kInt cs35 v26.1.Frame.Depth, RE.chunks kInt cs40 v26.1.Frame.Item, RE.chunks kInt cs45 v26.1.Frame.Tri] := by rw [hW]; exact H.drew
    clear hW
    refine PR_take (by rfl) (by rfl) (by rfl) (by exact wn0 rfl) (fun wS (H : Sep ok w wS [.blk b17 25 [.int .i64 a0.W, .int .i64 a0.H, .slice A1 a0.Color.length cp2, .slice A5 a0.Depth.length cp6, .slice A9 a0.Item.length cp10, .slice A13 a0.Tri.length cp14], .blk b19 68 [.int .i64 a3.D, .int .i64 a3.Item, .int .i64 a3.Tri, .int .i64 0, .int .i64 a3.U, .int .i64 a3.V], .blk b21 61 [.int .u8 a4.a0, .int .u8 a4.a1, .int .u8 a4.a2, .int .u8 a4.a3], .blk b23 25 [.int .i64 0, .int .i64 0, .slice none 0 0, .slice none 0 0, .slice none 0 0, .slice none 0 0], .row (.slice A28 v26.1.Frame.Color.length cp29) 61 k_Ar4_Int.sz v26.1.Frame.Color.length cs30, .row (.slice A33 v26.1.Frame.Depth.length cp34) 3 kInt.sz v26.1.Frame.Depth.length cs35, .row (.slice A38 v26.1.Frame.Item.length cp39) 3 kInt.sz v26.1.Frame.Item.length cs40, .row (.slice A43 v26.1.Frame.Tri.length cp44) 3 kInt.sz v26.1.Frame.Tri.length cs45, .blk b48 121 [.int .i64 v26.1.Frame.W, .int .i64 v26.1.Frame.H, .slice A28 v26.1.Frame.Color.length cp29, .slice A33 v26.1.Frame.Depth.length cp34, .slice A38 v26.1.Frame.Item.length cp39, .slice A43 v26.1.Frame.Tri.length cp44]] [RE.rd k_Ar4_Int A1 cp2 a0.Color, RE.rd kInt A5 cp6 a0.Depth, RE.rd kInt A9 cp10 a0.Item, RE.rd kInt A13 cp14 a0.Tri, RE.chunks k_Ar4_Int cs30 v26.1.Frame.Color, RE.chunks kInt cs35 v26.1.Frame.Depth, RE.chunks kInt cs40 v26.1.Frame.Item, RE.chunks kInt cs45 v26.1.Frame.Tri]) => (x_loadA (j := 0) (vs := [.int .i64 v26.1.Frame.W, .int .i64 v26.1.Frame.H, .slice A28 v26.1.Frame.Color.length cp29, .slice A33 v26.1.Frame.Depth.length cp34, .slice A38 v26.1.Frame.Item.length cp39, .slice A43 v26.1.Frame.Tri.length cp44]) ag121 (by rfl) (H.cells (i := 8) (by rfl)) (by rfl) (by rfl))) ?_
    refine PR_free (by rfl) (by rfl) (by rfl) (by exact wn0 rfl) (fun wS => (x_move (v := .int .i64 v26.2.1) (by rfl))) ?_
    obtain ⟨v67, hv66, hm⟩ := bind_some hm
    refine PR_run (by rfl) (O_call (by exact wn0 rfl) (by rfl) (by rfl) (x_callL (by rfl) (args := [.agg #[.int .i64 v26.1.Frame.W, .int .i64 v26.1.Frame.H, .slice A28 v26.1.Frame.Color.length cp29, .slice A33 v26.1.Frame.Depth.length cp34, .slice A38 v26.1.Frame.Item.length cp39, .slice A43 v26.1.Frame.Tri.length cp44], .int .i64 v26.2.1]) (by rfl) (cf71 _ _)) (c71 (fun _ => True) K w65 v26.1 A28 cp29 A33 cp34 A38 cp39 A43 cp44 v26.2.1 (H.rowRd (i := 4) (j := 4) (by rfl) (by rfl)) (H.rowRd (i := 5) (j := 5) (by rfl) (by rfl)) (H.rowRd (i := 6) (j := 6) (by rfl) (by rfl)) (H.rowRd (i := 7) (j := 7) (by rfl) (by rfl)) v67 hv66) ?_)
    rintro e w68 ⟨rfl, H2⟩
    have H : Sep ok w w68 [.blk b17 25 [.int .i64 a0.W, .int .i64 a0.H, .slice A1 a0.Color.length cp2, .slice A5 a0.Depth.length cp6, .slice A9 a0.Item.length cp10, .slice A13 a0.Tri.length cp14], .blk b19 68 [.int .i64 a3.D, .int .i64 a3.Item, .int .i64 a3.Tri, .int .i64 0, .int .i64 a3.U, .int .i64 a3.V], .blk b21 61 [.int .u8 a4.a0, .int .u8 a4.a1, .int .u8 a4.a2, .int .u8 a4.a3], .blk b23 25 [.int .i64 0, .int .i64 0, .slice none 0 0, .slice none 0 0, .slice none 0 0, .slice none 0 0], .row (.slice A28 v26.1.Frame.Color.length cp29) 61 k_Ar4_Int.sz v26.1.Frame.Color.length cs30, .row (.slice A33 v26.1.Frame.Depth.length cp34) 3 kInt.sz v26.1.Frame.Depth.length cs35, .row (.slice A38 v26.1.Frame.Item.length cp39) 3 kInt.sz v26.1.Frame.Item.length cs40, .row (.slice A43 v26.1.Frame.Tri.length cp44) 3 kInt.sz v26.1.Frame.Tri.length cs45, .blk b48 121 [.int .i64 v26.1.Frame.W, .int .i64 v26.1.Frame.H, .slice A28 v26.1.Frame.Color.length cp29, .slice A33 v26.1.Frame.Depth.length cp34, .slice A38 v26.1.Frame.Item.length cp39, .slice A43 v26.1.Frame.Tri.length cp44]] [RE.rd k_Ar4_Int A1 cp2 a0.Color, RE.rd kInt A5 cp6 a0.Depth, RE.rd kInt A9 cp10 a0.Item, RE.rd kInt A13 cp14 a0.Tri, RE.chunks k_Ar4_Int cs30 v26.1.Frame.Color, RE.chunks kInt cs35 v26.1.Frame.Depth, RE.chunks kInt cs40 v26.1.Frame.Item, RE.chunks kInt cs45 v26.1.Frame.Tri] := H.below H2.base
    clear H2
    refine ⟨_, rfl, H, ?_⟩
    show PR _ _ _ _ _ _ _ _
    refine PR_free (by rfl) (by rfl) (by rfl) (by exact wn0 rfl) (fun wS => (x_move (v := .bool v67) (by rfl))) ?_
    obtain ⟨b69, hmS, hm⟩ := bind_some hm
    refine PR_cut 22 (fun r' w' => Agr [(62, .bool b69), (8, .pointer (some ⟨b19, 0, none⟩)), (9, .pointer (some ⟨b21, 0, none⟩)), (10, .pointer (some ⟨b23, 0, none⟩)), (12, .pointer (some ⟨b48, 0, none⟩)), (13, .int .i64 v26.2.1)] r' ∧ Sep ok w w' [.blk b17 25 [.int .i64 a0.W, .int .i64 a0.H, .slice A1 a0.Color.length cp2, .slice A5 a0.Depth.length cp6, .slice A9 a0.Item.length cp10, .slice A13 a0.Tri.length cp14], .blk b19 68 [.int .i64 a3.D, .int .i64 a3.Item, .int .i64 a3.Tri, .int .i64 0, .int .i64 a3.U, .int .i64 a3.V], .blk b21 61 [.int .u8 a4.a0, .int .u8 a4.a1, .int .u8 a4.a2, .int .u8 a4.a3], .blk b23 25 [.int .i64 0, .int .i64 0, .slice none 0 0, .slice none 0 0, .slice none 0 0, .slice none 0 0], .row (.slice A28 v26.1.Frame.Color.length cp29) 61 k_Ar4_Int.sz v26.1.Frame.Color.length cs30, .row (.slice A33 v26.1.Frame.Depth.length cp34) 3 kInt.sz v26.1.Frame.Depth.length cs35, .row (.slice A38 v26.1.Frame.Item.length cp39) 3 kInt.sz v26.1.Frame.Item.length cs40, .row (.slice A43 v26.1.Frame.Tri.length cp44) 3 kInt.sz v26.1.Frame.Tri.length cs45, .blk b48 121 [.int .i64 v26.1.Frame.W, .int .i64 v26.1.Frame.H, .slice A28 v26.1.Frame.Color.length cp29, .slice A33 v26.1.Frame.Depth.length cp34, .slice A38 v26.1.Frame.Item.length cp39, .slice A43 v26.1.Frame.Tri.length cp44]] [RE.rd k_Ar4_Int A1 cp2 a0.Color, RE.rd kInt A5 cp6 a0.Depth, RE.rd kInt A9 cp10 a0.Item, RE.rd kInt A13 cp14 a0.Tri, RE.chunks k_Ar4_Int cs30 v26.1.Frame.Color, RE.chunks kInt cs35 v26.1.Frame.Depth, RE.chunks kInt cs40 v26.1.Frame.Item, RE.chunks kInt cs45 v26.1.Frame.Tri]) ?_ ?_
    ·cases hbS : v67
     ·have hm := cond_f hbS hmS
      refine PR_take (by rfl) (by rfl) (by rfl) (by exact wn1 rfl rfl rfl rfl) (fun wS (H : Sep ok w wS [.blk b17 25 [.int .i64 a0.W, .int .i64 a0.H, .slice A1 a0.Color.length cp2, .slice A5 a0.Depth.length cp6, .slice A9 a0.Item.length cp10, .slice A13 a0.Tri.length cp14], .blk b19 68 [.int .i64 a3.D, .int .i64 a3.Item, .int .i64 a3.Tri, .int .i64 0, .int .i64 a3.U, .int .i64 a3.V], .blk b21 61 [.int .u8 a4.a0, .int .u8 a4.a1, .int .u8 a4.a2, .int .u8 a4.a3], .blk b23 25 [.int .i64 0, .int .i64 0, .slice none 0 0, .slice none 0 0, .slice none 0 0, .slice none 0 0], .row (.slice A28 v26.1.Frame.Color.length cp29) 61 k_Ar4_Int.sz v26.1.Frame.Color.length cs30, .row (.slice A33 v26.1.Frame.Depth.length cp34) 3 kInt.sz v26.1.Frame.Depth.length cs35, .row (.slice A38 v26.1.Frame.Item.length cp39) 3 kInt.sz v26.1.Frame.Item.length cs40, .row (.slice A43 v26.1.Frame.Tri.length cp44) 3 kInt.sz v26.1.Frame.Tri.length cs45, .blk b48 121 [.int .i64 v26.1.Frame.W, .int .i64 v26.1.Frame.H, .slice A28 v26.1.Frame.Color.length cp29, .slice A33 v26.1.Frame.Depth.length cp34, .slice A38 v26.1.Frame.Item.length cp39, .slice A43 v26.1.Frame.Tri.length cp44]] [RE.rd k_Ar4_Int A1 cp2 a0.Color, RE.rd kInt A5 cp6 a0.Depth, RE.rd kInt A9 cp10 a0.Item, RE.rd kInt A13 cp14 a0.Tri, RE.chunks k_Ar4_Int cs30 v26.1.Frame.Color, RE.chunks kInt cs35 v26.1.Frame.Depth, RE.chunks kInt cs40 v26.1.Frame.Item, RE.chunks kInt cs45 v26.1.Frame.Tri]) => (x_loadA (j := 0) (vs := [.int .i64 a3.D, .int .i64 a3.Item, .int .i64 a3.Tri, .int .i64 0, .int .i64 a3.U, .int .i64 a3.V]) ag68 (by rfl) (H.cells (i := 1) (by rfl)) (by rfl) (by rfl))) ?_
      refine PR_free (by rfl) (by rfl) (by rfl) (by exact wn1 rfl rfl rfl rfl) (fun wS => (x_fieldAddr fo121_0 (by rfl))) ?_
      refine PR_free (by rfl) (by rfl) (by rfl) (by exact wn1 rfl rfl rfl rfl) (fun wS => (x_fieldAddr fo25_3 (by rfl))) ?_
      refine PR_take (by rfl) (by rfl) (by rfl) (by exact wn1 rfl rfl rfl rfl) (fun wS (H : Sep ok w wS [.blk b17 25 [.int .i64 a0.W, .int .i64 a0.H, .slice A1 a0.Color.length cp2, .slice A5 a0.Depth.length cp6, .slice A9 a0.Item.length cp10, .slice A13 a0.Tri.length cp14], .blk b19 68 [.int .i64 a3.D, .int .i64 a3.Item, .int .i64 a3.Tri, .int .i64 0, .int .i64 a3.U, .int .i64 a3.V], .blk b21 61 [.int .u8 a4.a0, .int .u8 a4.a1, .int .u8 a4.a2, .int .u8 a4.a3], .blk b23 25 [.int .i64 0, .int .i64 0, .slice none 0 0, .slice none 0 0, .slice none 0 0, .slice none 0 0], .row (.slice A28 v26.1.Frame.Color.length cp29) 61 k_Ar4_Int.sz v26.1.Frame.Color.length cs30, .row (.slice A33 v26.1.Frame.Depth.length cp34) 3 kInt.sz v26.1.Frame.Depth.length cs35, .row (.slice A38 v26.1.Frame.Item.length cp39) 3 kInt.sz v26.1.Frame.Item.length cs40, .row (.slice A43 v26.1.Frame.Tri.length cp44) 3 kInt.sz v26.1.Frame.Tri.length cs45, .blk b48 121 [.int .i64 v26.1.Frame.W, .int .i64 v26.1.Frame.H, .slice A28 v26.1.Frame.Color.length cp29, .slice A33 v26.1.Frame.Depth.length cp34, .slice A38 v26.1.Frame.Item.length cp39, .slice A43 v26.1.Frame.Tri.length cp44]] [RE.rd k_Ar4_Int A1 cp2 a0.Color, RE.rd kInt A5 cp6 a0.Depth, RE.rd kInt A9 cp10 a0.Item, RE.rd kInt A13 cp14 a0.Tri, RE.chunks k_Ar4_Int cs30 v26.1.Frame.Color, RE.chunks kInt cs35 v26.1.Frame.Depth, RE.chunks kInt cs40 v26.1.Frame.Item, RE.chunks kInt cs45 v26.1.Frame.Tri]) => (x_load (j := 3) (v := .slice A33 v26.1.Frame.Depth.length cp34) sc23 (by rfl) (H.cells (i := 8) (by rfl)) (by rfl))) ?_
      refine PR_free (by rfl) (by rfl) (by rfl) (by exact wn1 rfl rfl rfl rfl) (fun wS => (x_move (v := .int .i64 v26.2.1) (by rfl))) ?_
      obtain ⟨el70, h71, h72, he73, hm⟩ := idx_some hm
      obtain ⟨g75, _, hA74, _, _⟩ := H.rowIdx (i := 5) (j := 5) (by rfl) (by rfl) he73
      refine PR_free (by rfl) (by rfl) (by rfl) (by exact wn1 rfl rfl rfl rfl) (fun wS => (x_indexAddr sl23 sz3 (by rfl) (by rfl) hA74 h71 h72)) ?_
      refine PR_take (by rfl) (by rfl) (by rfl) (by exact wn1 rfl rfl rfl rfl) (fun wS (H : Sep ok w wS [.blk b17 25 [.int .i64 a0.W, .int .i64 a0.H, .slice A1 a0.Color.length cp2, .slice A5 a0.Depth.length cp6, .slice A9 a0.Item.length cp10, .slice A13 a0.Tri.length cp14], .blk b19 68 [.int .i64 a3.D, .int .i64 a3.Item, .int .i64 a3.Tri, .int .i64 0, .int .i64 a3.U, .int .i64 a3.V], .blk b21 61 [.int .u8 a4.a0, .int .u8 a4.a1, .int .u8 a4.a2, .int .u8 a4.a3], .blk b23 25 [.int .i64 0, .int .i64 0, .slice none 0 0, .slice none 0 0, .slice none 0 0, .slice none 0 0], .row (.slice A28 v26.1.Frame.Color.length cp29) 61 k_Ar4_Int.sz v26.1.Frame.Color.length cs30, .row (.slice A33 v26.1.Frame.Depth.length cp34) 3 kInt.sz v26.1.Frame.Depth.length cs35, .row (.slice A38 v26.1.Frame.Item.length cp39) 3 kInt.sz v26.1.Frame.Item.length cs40, .row (.slice A43 v26.1.Frame.Tri.length cp44) 3 kInt.sz v26.1.Frame.Tri.length cs45, .blk b48 121 [.int .i64 v26.1.Frame.W, .int .i64 v26.1.Frame.H, .slice A28 v26.1.Frame.Color.length cp29, .slice A33 v26.1.Frame.Depth.length cp34, .slice A38 v26.1.Frame.Item.length cp39, .slice A43 v26.1.Frame.Tri.length cp44]] [RE.rd k_Ar4_Int A1 cp2 a0.Color, RE.rd kInt A5 cp6 a0.Depth, RE.rd kInt A9 cp10 a0.Item, RE.rd kInt A13 cp14 a0.Tri, RE.chunks k_Ar4_Int cs30 v26.1.Frame.Color, RE.chunks kInt cs35 v26.1.Frame.Depth, RE.chunks kInt cs40 v26.1.Frame.Item, RE.chunks kInt cs45 v26.1.Frame.Tri]) => (x_load (j := 0) (v := .int .i64 el70) sc3 (by rfl) (H.rowFlatAt (n := 1) (i := 5) (j := 5) (by rfl) (by rfl) hA74 he73) (by rfl))) ?_
      refine PR_free (by rfl) (by rfl) (by rfl) (by exact wn1 rfl rfl rfl rfl) (fun wS => (x_fieldAddr fo121_0 (by rfl))) ?_
      refine PR_free (by rfl) (by rfl) (by rfl) (by exact wn1 rfl rfl rfl rfl) (fun wS => (x_fieldAddr fo25_4 (by rfl))) ?_
      refine PR_take (by rfl) (by rfl) (by rfl) (by exact wn1 rfl rfl rfl rfl) (fun wS (H : Sep ok w wS [.blk b17 25 [.int .i64 a0.W, .int .i64 a0.H, .slice A1 a0.Color.length cp2, .slice A5 a0.Depth.length cp6, .slice A9 a0.Item.length cp10, .slice A13 a0.Tri.length cp14], .blk b19 68 [.int .i64 a3.D, .int .i64 a3.Item, .int .i64 a3.Tri, .int .i64 0, .int .i64 a3.U, .int .i64 a3.V], .blk b21 61 [.int .u8 a4.a0, .int .u8 a4.a1, .int .u8 a4.a2, .int .u8 a4.a3], .blk b23 25 [.int .i64 0, .int .i64 0, .slice none 0 0, .slice none 0 0, .slice none 0 0, .slice none 0 0], .row (.slice A28 v26.1.Frame.Color.length cp29) 61 k_Ar4_Int.sz v26.1.Frame.Color.length cs30, .row (.slice A33 v26.1.Frame.Depth.length cp34) 3 kInt.sz v26.1.Frame.Depth.length cs35, .row (.slice A38 v26.1.Frame.Item.length cp39) 3 kInt.sz v26.1.Frame.Item.length cs40, .row (.slice A43 v26.1.Frame.Tri.length cp44) 3 kInt.sz v26.1.Frame.Tri.length cs45, .blk b48 121 [.int .i64 v26.1.Frame.W, .int .i64 v26.1.Frame.H, .slice A28 v26.1.Frame.Color.length cp29, .slice A33 v26.1.Frame.Depth.length cp34, .slice A38 v26.1.Frame.Item.length cp39, .slice A43 v26.1.Frame.Tri.length cp44]] [RE.rd k_Ar4_Int A1 cp2 a0.Color, RE.rd kInt A5 cp6 a0.Depth, RE.rd kInt A9 cp10 a0.Item, RE.rd kInt A13 cp14 a0.Tri, RE.chunks k_Ar4_Int cs30 v26.1.Frame.Color, RE.chunks kInt cs35 v26.1.Frame.Depth, RE.chunks kInt cs40 v26.1.Frame.Item, RE.chunks kInt cs45 v26.1.Frame.Tri]) => (x_load (j := 4) (v := .slice A38 v26.1.Frame.Item.length cp39) sc23 (by rfl) (H.cells (i := 8) (by rfl)) (by rfl))) ?_
      refine PR_free (by rfl) (by rfl) (by rfl) (by exact wn1 rfl rfl rfl rfl) (fun wS => (x_move (v := .int .i64 v26.2.1) (by rfl))) ?_
      obtain ⟨el77, h78, h79, he80, hm⟩ := idx_some hm
      obtain ⟨g82, _, hA81, _, _⟩ := H.rowIdx (i := 6) (j := 6) (by rfl) (by rfl) he80
      refine PR_free (by rfl) (by rfl) (by rfl) (by exact wn1 rfl rfl rfl rfl) (fun wS => (x_indexAddr sl23 sz3 (by rfl) (by rfl) hA81 h78 h79)) ?_
      refine PR_take (by rfl) (by rfl) (by rfl) (by exact wn1 rfl rfl rfl rfl) (fun wS (H : Sep ok w wS [.blk b17 25 [.int .i64 a0.W, .int .i64 a0.H, .slice A1 a0.Color.length cp2, .slice A5 a0.Depth.length cp6, .slice A9 a0.Item.length cp10, .slice A13 a0.Tri.length cp14], .blk b19 68 [.int .i64 a3.D, .int .i64 a3.Item, .int .i64 a3.Tri, .int .i64 0, .int .i64 a3.U, .int .i64 a3.V], .blk b21 61 [.int .u8 a4.a0, .int .u8 a4.a1, .int .u8 a4.a2, .int .u8 a4.a3], .blk b23 25 [.int .i64 0, .int .i64 0, .slice none 0 0, .slice none 0 0, .slice none 0 0, .slice none 0 0], .row (.slice A28 v26.1.Frame.Color.length cp29) 61 k_Ar4_Int.sz v26.1.Frame.Color.length cs30, .row (.slice A33 v26.1.Frame.Depth.length cp34) 3 kInt.sz v26.1.Frame.Depth.length cs35, .row (.slice A38 v26.1.Frame.Item.length cp39) 3 kInt.sz v26.1.Frame.Item.length cs40, .row (.slice A43 v26.1.Frame.Tri.length cp44) 3 kInt.sz v26.1.Frame.Tri.length cs45, .blk b48 121 [.int .i64 v26.1.Frame.W, .int .i64 v26.1.Frame.H, .slice A28 v26.1.Frame.Color.length cp29, .slice A33 v26.1.Frame.Depth.length cp34, .slice A38 v26.1.Frame.Item.length cp39, .slice A43 v26.1.Frame.Tri.length cp44]] [RE.rd k_Ar4_Int A1 cp2 a0.Color, RE.rd kInt A5 cp6 a0.Depth, RE.rd kInt A9 cp10 a0.Item, RE.rd kInt A13 cp14 a0.Tri, RE.chunks k_Ar4_Int cs30 v26.1.Frame.Color, RE.chunks kInt cs35 v26.1.Frame.Depth, RE.chunks kInt cs40 v26.1.Frame.Item, RE.chunks kInt cs45 v26.1.Frame.Tri]) => (x_load (j := 0) (v := .int .i64 el77) sc3 (by rfl) (H.rowFlatAt (n := 1) (i := 6) (j := 6) (by rfl) (by rfl) hA81 he80) (by rfl))) ?_
      refine PR_free (by rfl) (by rfl) (by rfl) (by exact wn1 rfl rfl rfl rfl) (fun wS => (x_fieldAddr fo121_0 (by rfl))) ?_
      refine PR_free (by rfl) (by rfl) (by rfl) (by exact wn1 rfl rfl rfl rfl) (fun wS => (x_fieldAddr fo25_5 (by rfl))) ?_
      refine PR_take (by rfl) (by rfl) (by rfl) (by exact wn1 rfl rfl rfl rfl) (fun wS (H : Sep ok w wS [.blk b17 25 [.int .i64 a0.W, .int .i64 a0.H, .slice A1 a0.Color.length cp2, .slice A5 a0.Depth.length cp6, .slice A9 a0.Item.length cp10, .slice A13 a0.Tri.length cp14], .blk b19 68 [.int .i64 a3.D, .int .i64 a3.Item, .int .i64 a3.Tri, .int .i64 0, .int .i64 a3.U, .int .i64 a3.V], .blk b21 61 [.int .u8 a4.a0, .int .u8 a4.a1, .int .u8 a4.a2, .int .u8 a4.a3], .blk b23 25 [.int .i64 0, .int .i64 0, .slice none 0 0, .slice none 0 0, .slice none 0 0, .slice none 0 0], .row (.slice A28 v26.1.Frame.Color.length cp29) 61 k_Ar4_Int.sz v26.1.Frame.Color.length cs30, .row (.slice A33 v26.1.Frame.Depth.length cp34) 3 kInt.sz v26.1.Frame.Depth.length cs35, .row (.slice A38 v26.1.Frame.Item.length cp39) 3 kInt.sz v26.1.Frame.Item.length cs40, .row (.slice A43 v26.1.Frame.Tri.length cp44) 3 kInt.sz v26.1.Frame.Tri.length cs45, .blk b48 121 [.int .i64 v26.1.Frame.W, .int .i64 v26.1.Frame.H, .slice A28 v26.1.Frame.Color.length cp29, .slice A33 v26.1.Frame.Depth.length cp34, .slice A38 v26.1.Frame.Item.length cp39, .slice A43 v26.1.Frame.Tri.length cp44]] [RE.rd k_Ar4_Int A1 cp2 a0.Color, RE.rd kInt A5 cp6 a0.Depth, RE.rd kInt A9 cp10 a0.Item, RE.rd kInt A13 cp14 a0.Tri, RE.chunks k_Ar4_Int cs30 v26.1.Frame.Color, RE.chunks kInt cs35 v26.1.Frame.Depth, RE.chunks kInt cs40 v26.1.Frame.Item, RE.chunks kInt cs45 v26.1.Frame.Tri]) => (x_load (j := 5) (v := .slice A43 v26.1.Frame.Tri.length cp44) sc23 (by rfl) (H.cells (i := 8) (by rfl)) (by rfl))) ?_
      refine PR_free (by rfl) (by rfl) (by rfl) (by exact wn1 rfl rfl rfl rfl) (fun wS => (x_move (v := .int .i64 v26.2.1) (by rfl))) ?_
      obtain ⟨el84, h85, h86, he87, hm⟩ := idx_some hm
      obtain ⟨g89, _, hA88, _, _⟩ := H.rowIdx (i := 7) (j := 7) (by rfl) (by rfl) he87
      refine PR_free (by rfl) (by rfl) (by rfl) (by exact wn1 rfl rfl rfl rfl) (fun wS => (x_indexAddr sl23 sz3 (by rfl) (by rfl) hA88 h85 h86)) ?_
      refine PR_take (by rfl) (by rfl) (by rfl) (by exact wn1 rfl rfl rfl rfl) (fun wS (H : Sep ok w wS [.blk b17 25 [.int .i64 a0.W, .int .i64 a0.H, .slice A1 a0.Color.length cp2, .slice A5 a0.Depth.length cp6, .slice A9 a0.Item.length cp10, .slice A13 a0.Tri.length cp14], .blk b19 68 [.int .i64 a3.D, .int .i64 a3.Item, .int .i64 a3.Tri, .int .i64 0, .int .i64 a3.U, .int .i64 a3.V], .blk b21 61 [.int .u8 a4.a0, .int .u8 a4.a1, .int .u8 a4.a2, .int .u8 a4.a3], .blk b23 25 [.int .i64 0, .int .i64 0, .slice none 0 0, .slice none 0 0, .slice none 0 0, .slice none 0 0], .row (.slice A28 v26.1.Frame.Color.length cp29) 61 k_Ar4_Int.sz v26.1.Frame.Color.length cs30, .row (.slice A33 v26.1.Frame.Depth.length cp34) 3 kInt.sz v26.1.Frame.Depth.length cs35, .row (.slice A38 v26.1.Frame.Item.length cp39) 3 kInt.sz v26.1.Frame.Item.length cs40, .row (.slice A43 v26.1.Frame.Tri.length cp44) 3 kInt.sz v26.1.Frame.Tri.length cs45, .blk b48 121 [.int .i64 v26.1.Frame.W, .int .i64 v26.1.Frame.H, .slice A28 v26.1.Frame.Color.length cp29, .slice A33 v26.1.Frame.Depth.length cp34, .slice A38 v26.1.Frame.Item.length cp39, .slice A43 v26.1.Frame.Tri.length cp44]] [RE.rd k_Ar4_Int A1 cp2 a0.Color, RE.rd kInt A5 cp6 a0.Depth, RE.rd kInt A9 cp10 a0.Item, RE.rd kInt A13 cp14 a0.Tri, RE.chunks k_Ar4_Int cs30 v26.1.Frame.Color, RE.chunks kInt cs35 v26.1.Frame.Depth, RE.chunks kInt cs40 v26.1.Frame.Item, RE.chunks kInt cs45 v26.1.Frame.Tri]) => (x_load (j := 0) (v := .int .i64 el84) sc3 (by rfl) (H.rowFlatAt (n := 1) (i := 7) (j := 7) (by rfl) (by rfl) hA88 he87) (by rfl))) ?_
      refine PR_free (by rfl) (by rfl) (by rfl) (by exact wn1 rfl rfl rfl rfl) (fun wS => (x_build (vs := [(0, .int .i64 el70), (1, .int .i64 el77), (2, .int .i64 el84)]) (cs := [.int .i64 el70, .int .i64 el77, .int .i64 el84, .int .i64 0, .int .i64 0, .int .i64 0]) (by rfl) (by kernel_rfl))) ?_
      obtain ⟨v92, hv91, hm⟩ := bind_some hm
      refine PR_run (by rfl) (O_call (by exact wn1 rfl rfl rfl rfl) (by rfl) (by rfl) (x_callL (by rfl) (args := [.agg #[.int .i64 a3.D, .int .i64 a3.Item, .int .i64 a3.Tri, .int .i64 0, .int .i64 a3.U, .int .i64 a3.V], .agg #[.int .i64 el70, .int .i64 el77, .int .i64 el84, .int .i64 0, .int .i64 0, .int .i64 0]]) (by rfl) (cf76 _ _)) (c76 (fun _ => True) K w68 (⟨a3.D, a3.Item, a3.Tri, 0, a3.U, a3.V⟩ : S_Frag) (⟨el70, el77, el84, 0, 0, 0⟩ : S_Frag)  v92 hv91) ?_)
      rintro e w93 ⟨rfl, H2⟩
      have H : Sep ok w w93 [.blk b17 25 [.int .i64 a0.W, .int .i64 a0.H, .slice A1 a0.Color.length cp2, .slice A5 a0.Depth.length cp6, .slice A9 a0.Item.length cp10, .slice A13 a0.Tri.length cp14], .blk b19 68 [.int .i64 a3.D, .int .i64 a3.Item, .int .i64 a3.Tri, .int .i64 0, .int .i64 a3.U, .int .i64 a3.V], .blk b21 61 [.int .u8 a4.a0, .int .u8 a4.a1, .int .u8 a4.a2, .int .u8 a4.a3], .blk b23 25 [.int .i64 0, .int .i64 0, .slice none 0 0, .slice none 0 0, .slice none 0 0, .slice none 0 0], .row (.slice A28 v26.1.Frame.Color.length cp29) 61 k_Ar4_Int.sz v26.1.Frame.Color.length cs30, .row (.slice A33 v26.1.Frame.Depth.length cp34) 3 kInt.sz v26.1.Frame.Depth.length cs35, .row (.slice A38 v26.1.Frame.Item.length cp39) 3 kInt.sz v26.1.Frame.Item.length cs40, .row (.slice A43 v26.1.Frame.Tri.length cp44) 3 kInt.sz v26.1.Frame.Tri.length cs45, .blk b48 121 [.int .i64 v26.1.Frame.W, .int .i64 v26.1.Frame.H, .slice A28 v26.1.Frame.Color.length cp29, .slice A33 v26.1.Frame.Depth.length cp34, .slice A38 v26.1.Frame.Item.length cp39, .slice A43 v26.1.Frame.Tri.length cp44]] [RE.rd k_Ar4_Int A1 cp2 a0.Color, RE.rd kInt A5 cp6 a0.Depth, RE.rd kInt A9 cp10 a0.Item, RE.rd kInt A13 cp14 a0.Tri, RE.chunks k_Ar4_Int cs30 v26.1.Frame.Color, RE.chunks kInt cs35 v26.1.Frame.Depth, RE.chunks kInt cs40 v26.1.Frame.Item, RE.chunks kInt cs45 v26.1.Frame.Tri] := H.below H2.base
      clear H2
      refine ⟨_, rfl, H, ?_⟩
      show PR _ _ _ _ _ _ _ _
      refine PR_free (by rfl) (by rfl) (by rfl) (by exact wn0 rfl) (fun wS => (x_pick_f (v := .bool v92) (by rfl) (by rfl))) ?_
      refine PR_nil ?_
      exact ⟨⟨congrArg Value.bool (Option.some.inj hm), rfl, rfl, rfl, rfl, rfl, trivial⟩, H⟩
     ·have hm := cond_t hbS hmS
      refine PR_off (by rfl) (by rfl) (by rfl) (by exact wn2 rfl rfl rfl rfl) ?_
      refine PR_offF (by rfl) (by rfl) (by rfl) (by exact wn2 rfl rfl rfl rfl) ?_
      refine PR_offF (by rfl) (by rfl) (by rfl) (by exact wn2 rfl rfl rfl rfl) ?_
      refine PR_off (by rfl) (by rfl) (by rfl) (by exact wn2 rfl rfl rfl rfl) ?_
      refine PR_offF (by rfl) (by rfl) (by rfl) (by exact wn2 rfl rfl rfl rfl) ?_
      refine PR_offF (by rfl) (by rfl) (by rfl) (by exact wn2 rfl rfl rfl rfl) ?_
      refine PR_off (by rfl) (by rfl) (by rfl) (by exact wn2 rfl rfl rfl rfl) ?_
      refine PR_offF (by rfl) (by rfl) (by rfl) (by exact wn2 rfl rfl rfl rfl) ?_
      refine PR_offF (by rfl) (by rfl) (by rfl) (by exact wn2 rfl rfl rfl rfl) ?_
      refine PR_off (by rfl) (by rfl) (by rfl) (by exact wn2 rfl rfl rfl rfl) ?_
      refine PR_offF (by rfl) (by rfl) (by rfl) (by exact wn2 rfl rfl rfl rfl) ?_
      refine PR_offF (by rfl) (by rfl) (by rfl) (by exact wn2 rfl rfl rfl rfl) ?_
      refine PR_off (by rfl) (by rfl) (by rfl) (by exact wn2 rfl rfl rfl rfl) ?_
      refine PR_offF (by rfl) (by rfl) (by rfl) (by exact wn2 rfl rfl rfl rfl) ?_
      refine PR_offF (by rfl) (by rfl) (by rfl) (by exact wn2 rfl rfl rfl rfl) ?_
      refine PR_off (by rfl) (by rfl) (by rfl) (by exact wn2 rfl rfl rfl rfl) ?_
      refine PR_offF (by rfl) (by rfl) (by rfl) (by exact wn2 rfl rfl rfl rfl) ?_
      refine PR_offF (by rfl) (by rfl) (by rfl) (by exact wn2 rfl rfl rfl rfl) ?_
      refine PR_off (by rfl) (by rfl) (by rfl) (by exact wn2 rfl rfl rfl rfl) ?_
      refine PR_offF (by rfl) (by rfl) (by rfl) (by exact wn2 rfl rfl rfl rfl) ?_
      refine PR_run (by rfl) (OpR_off (by exact wn2 rfl rfl rfl rfl) (by rfl) (by rfl) ⟨H, ?_⟩)
      refine PR_free (by rfl) (by rfl) (by rfl) (by exact wn0 rfl) (fun wS => (x_pick_t (v := .bool true) (by rfl) (by rfl))) ?_
      refine PR_nil ?_
      exact ⟨⟨congrArg Value.bool (Option.some.inj hm), rfl, rfl, rfl, rfl, rfl, trivial⟩, H⟩
    ·rintro r' w' ⟨hA, H⟩
     obtain ⟨r94, rfl⟩ := regen _ hA; clear hA
     obtain ⟨w95, rfl⟩ : ∃ W : World, W = w' := ⟨_, rfl⟩
     show PR _ _ _ _ _ _ _ _
     refine PR_nil ?_
     refine W_cond (by rfl) (fun hb => ?_) (fun hb => ?_)
     ·have hm := cond_t hb hm
      refine W_draw [.free 0, .free 1, .take 2, .free 3, .free 4, .free 5, .take 6, .free 7, .free 8, .free 9, .take 10, .free 11, .free 12, .free 13, .take 14, .free 15, .take 16, .free 17, .take 18, .free 19, .take 20, .free 21, .take 22, .free 23, .run 24, .free 25, .run 26, .free 27, .run 28, .free 29, .tail 30] (fun wS => Sep ok w wS [.blk b17 25 [.int .i64 a0.W, .int .i64 a0.H, .slice A1 a0.Color.length cp2, .slice A5 a0.Depth.length cp6, .slice A9 a0.Item.length cp10, .slice A13 a0.Tri.length cp14], .blk b19 68 [.int .i64 a3.D, .int .i64 a3.Item, .int .i64 a3.Tri, .int .i64 0, .int .i64 a3.U, .int .i64 a3.V], .blk b21 61 [.int .u8 a4.a0, .int .u8 a4.a1, .int .u8 a4.a2, .int .u8 a4.a3], .blk b23 25 [.int .i64 0, .int .i64 0, .slice none 0 0, .slice none 0 0, .slice none 0 0, .slice none 0 0], .hole, .hole, .hole, .row (.slice A43 v26.1.Frame.Tri.length cp44) 3 kInt.sz v26.1.Frame.Tri.length cs45, .blk b48 121 [.int .i64 v26.1.Frame.W, .int .i64 v26.1.Frame.H, .slice A28 v26.1.Frame.Color.length cp29, .slice A33 v26.1.Frame.Depth.length cp34, .slice A38 v26.1.Frame.Item.length cp39, .slice A43 v26.1.Frame.Tri.length cp44]] [RE.rd k_Ar4_Int A1 cp2 a0.Color, RE.rd kInt A5 cp6 a0.Depth, RE.rd kInt A9 cp10 a0.Item, RE.rd kInt A13 cp14 a0.Tri, RE.hole, RE.hole, RE.hole, RE.chunks kInt cs45 v26.1.Frame.Tri]) [30] [0, 1, 3, 4, 5, 7, 8, 9, 11, 12, 13, 15, 17, 19, 21, 23, 25, 27, 29] mixed0 (by kernel_rfl) (by kernel_rfl) (by kernel_rfl) (by rfl) (by exact (Sep.holeR (Sep.holeR (Sep.holeR (Sep.holeL (Sep.holeL (Sep.holeL H.drew 4) 5) 6) 4) 5) 6)) ?_
      obtain ⟨w96, hW⟩ : ∃ W : World, W = { w95 with drawn := w95.drawn + 1 } := ⟨_, rfl⟩
      rw [← hW]
      have H : Sep ok w w96 [.blk b17 25 [.int .i64 a0.W, .int .i64 a0.H, .slice A1 a0.Color.length cp2, .slice A5 a0.Depth.length cp6, .slice A9 a0.Item.length cp10, .slice A13 a0.Tri.length cp14], .blk b19 68 [.int .i64 a3.D, .int .i64 a3.Item, .int .i64 a3.Tri, .int .i64 0, .int .i64 a3.U, .int .i64 a3.V], .blk b21 61 [.int .u8 a4.a0, .int .u8 a4.a1, .int .u8 a4.a2, .int .u8 a4.a3], .blk b23 25 [.int .i64 0, .int .i64 0, .slice none 0 0, .slice none 0 0, .slice none 0 0, .slice none 0 0], .row (.slice A28 v26.1.Frame.Color.length cp29) 61 k_Ar4_Int.sz v26.1.Frame.Color.length cs30, .row (.slice A33 v26.1.Frame.Depth.length cp34) 3 kInt.sz v26.1.Frame.Depth.length cs35, .row (.slice A38 v26.1.Frame.Item.length cp39) 3 kInt.sz v26.1.Frame.Item.length cs40, .row (.slice A43 v26.1.Frame.Tri.length cp44) 3 kInt.sz v26.1.Frame.Tri.length cs45, .blk b48 121 [.int .i64 v26.1.Frame.W, .int .i64 v26.1.Frame.H, .slice A28 v26.1.Frame.Color.length cp29, .slice A33 v26.1.Frame.Depth.length cp34, .slice A38 v26.1.Frame.Item.length cp39, .slice A43 v26.1.Frame.Tri.length cp44]] [RE.rd k_Ar4_Int A1 cp2 a0.Color, RE.rd kInt A5 cp6 a0.Depth, RE.rd kInt A9 cp10 a0.Item, RE.rd kInt A13 cp14 a0.Tri, RE.chunks k_Ar4_Int cs30 v26.1.Frame.Color, RE.chunks kInt cs35 v26.1.Frame.Depth, RE.chunks kInt cs40 v26.1.Frame.Item, RE.chunks kInt cs45 v26.1.Frame.Tri] := by rw [hW]; exact H.drew
      clear hW
      refine PR_free (by rfl) (by rfl) (by rfl) (by exact wn0 rfl) (fun wS => (x_fieldAddr fo121_0 (by rfl))) ?_
      refine PR_free (by rfl) (by rfl) (by rfl) (by exact wn0 rfl) (fun wS => (x_fieldAddr fo25_2 (by rfl))) ?_
      refine PR_take (by rfl) (by rfl) (by rfl) (by exact wn0 rfl) (fun wS (H : Sep ok w wS [.blk b17 25 [.int .i64 a0.W, .int .i64 a0.H, .slice A1 a0.Color.length cp2, .slice A5 a0.Depth.length cp6, .slice A9 a0.Item.length cp10, .slice A13 a0.Tri.length cp14], .blk b19 68 [.int .i64 a3.D, .int .i64 a3.Item, .int .i64 a3.Tri, .int .i64 0, .int .i64 a3.U, .int .i64 a3.V], .blk b21 61 [.int .u8 a4.a0, .int .u8 a4.a1, .int .u8 a4.a2, .int .u8 a4.a3], .blk b23 25 [.int .i64 0, .int .i64 0, .slice none 0 0, .slice none 0 0, .slice none 0 0, .slice none 0 0], .hole, .hole, .hole, .row (.slice A43 v26.1.Frame.Tri.length cp44) 3 kInt.sz v26.1.Frame.Tri.length cs45, .blk b48 121 [.int .i64 v26.1.Frame.W, .int .i64 v26.1.Frame.H, .slice A28 v26.1.Frame.Color.length cp29, .slice A33 v26.1.Frame.Depth.length cp34, .slice A38 v26.1.Frame.Item.length cp39, .slice A43 v26.1.Frame.Tri.length cp44]] [RE.rd k_Ar4_Int A1 cp2 a0.Color, RE.rd kInt A5 cp6 a0.Depth, RE.rd kInt A9 cp10 a0.Item, RE.rd kInt A13 cp14 a0.Tri, RE.hole, RE.hole, RE.hole, RE.chunks kInt cs45 v26.1.Frame.Tri]) => (x_load (j := 2) (v := .slice A28 v26.1.Frame.Color.length cp29) sc22 (by rfl) (H.cells (i := 8) (by rfl)) (by rfl))) ?_
      refine PR_free (by rfl) (by rfl) (by rfl) (by exact wn0 rfl) (fun wS => (x_move (v := .int .i64 v26.2.1) (by rfl))) ?_
      refine PR_free (by rfl) (by rfl) (by rfl) (by exact wn0 rfl) (fun wS => (x_fieldAddr fo121_0 (by rfl))) ?_
      refine PR_free (by rfl) (by rfl) (by rfl) (by exact wn0 rfl) (fun wS => (x_fieldAddr fo25_3 (by rfl))) ?_
      refine PR_take (by rfl) (by rfl) (by rfl) (by exact wn0 rfl) (fun wS (H : Sep ok w wS [.blk b17 25 [.int .i64 a0.W, .int .i64 a0.H, .slice A1 a0.Color.length cp2, .slice A5 a0.Depth.length cp6, .slice A9 a0.Item.length cp10, .slice A13 a0.Tri.length cp14], .blk b19 68 [.int .i64 a3.D, .int .i64 a3.Item, .int .i64 a3.Tri, .int .i64 0, .int .i64 a3.U, .int .i64 a3.V], .blk b21 61 [.int .u8 a4.a0, .int .u8 a4.a1, .int .u8 a4.a2, .int .u8 a4.a3], .blk b23 25 [.int .i64 0, .int .i64 0, .slice none 0 0, .slice none 0 0, .slice none 0 0, .slice none 0 0], .hole, .hole, .hole, .row (.slice A43 v26.1.Frame.Tri.length cp44) 3 kInt.sz v26.1.Frame.Tri.length cs45, .blk b48 121 [.int .i64 v26.1.Frame.W, .int .i64 v26.1.Frame.H, .slice A28 v26.1.Frame.Color.length cp29, .slice A33 v26.1.Frame.Depth.length cp34, .slice A38 v26.1.Frame.Item.length cp39, .slice A43 v26.1.Frame.Tri.length cp44]] [RE.rd k_Ar4_Int A1 cp2 a0.Color, RE.rd kInt A5 cp6 a0.Depth, RE.rd kInt A9 cp10 a0.Item, RE.rd kInt A13 cp14 a0.Tri, RE.hole, RE.hole, RE.hole, RE.chunks kInt cs45 v26.1.Frame.Tri]) => (x_load (j := 3) (v := .slice A33 v26.1.Frame.Depth.length cp34) sc23 (by rfl) (H.cells (i := 8) (by rfl)) (by rfl))) ?_
      refine PR_free (by rfl) (by rfl) (by rfl) (by exact wn0 rfl) (fun wS => (x_move (v := .int .i64 v26.2.1) (by rfl))) ?_
      refine PR_free (by rfl) (by rfl) (by rfl) (by exact wn0 rfl) (fun wS => (x_fieldAddr fo121_0 (by rfl))) ?_
      refine PR_free (by rfl) (by rfl) (by rfl) (by exact wn0 rfl) (fun wS => (x_fieldAddr fo25_4 (by rfl))) ?_
      refine PR_take (by rfl) (by rfl) (by rfl) (by exact wn0 rfl) (fun wS (H : Sep ok w wS [.blk b17 25 [.int .i64 a0.W, .int .i64 a0.H, .slice A1 a0.Color.length cp2, .slice A5 a0.Depth.length cp6, .slice A9 a0.Item.length cp10, .slice A13 a0.Tri.length cp14], .blk b19 68 [.int .i64 a3.D, .int .i64 a3.Item, .int .i64 a3.Tri, .int .i64 0, .int .i64 a3.U, .int .i64 a3.V], .blk b21 61 [.int .u8 a4.a0, .int .u8 a4.a1, .int .u8 a4.a2, .int .u8 a4.a3], .blk b23 25 [.int .i64 0, .int .i64 0, .slice none 0 0, .slice none 0 0, .slice none 0 0, .slice none 0 0], .hole, .hole, .hole, .row (.slice A43 v26.1.Frame.Tri.length cp44) 3 kInt.sz v26.1.Frame.Tri.length cs45, .blk b48 121 [.int .i64 v26.1.Frame.W, .int .i64 v26.1.Frame.H, .slice A28 v26.1.Frame.Color.length cp29, .slice A33 v26.1.Frame.Depth.length cp34, .slice A38 v26.1.Frame.Item.length cp39, .slice A43 v26.1.Frame.Tri.length cp44]] [RE.rd k_Ar4_Int A1 cp2 a0.Color, RE.rd kInt A5 cp6 a0.Depth, RE.rd kInt A9 cp10 a0.Item, RE.rd kInt A13 cp14 a0.Tri, RE.hole, RE.hole, RE.hole, RE.chunks kInt cs45 v26.1.Frame.Tri]) => (x_load (j := 4) (v := .slice A38 v26.1.Frame.Item.length cp39) sc23 (by rfl) (H.cells (i := 8) (by rfl)) (by rfl))) ?_
      refine PR_free (by rfl) (by rfl) (by rfl) (by exact wn0 rfl) (fun wS => (x_move (v := .int .i64 v26.2.1) (by rfl))) ?_
      refine PR_free (by rfl) (by rfl) (by rfl) (by exact wn0 rfl) (fun wS => (x_fieldAddr fo121_0 (by rfl))) ?_
      refine PR_free (by rfl) (by rfl) (by rfl) (by exact wn0 rfl) (fun wS => (x_fieldAddr fo25_5 (by rfl))) ?_
      refine PR_take (by rfl) (by rfl) (by rfl) (by exact wn0 rfl) (fun wS (H : Sep ok w wS [.blk b17 25 [.int .i64 a0.W, .int .i64 a0.H, .slice A1 a0.Color.length cp2, .slice A5 a0.Depth.length cp6, .slice A9 a0.Item.length cp10, .slice A13 a0.Tri.length cp14], .blk b19 68 [.int .i64 a3.D, .int .i64 a3.Item, .int .i64 a3.Tri, .int .i64 0, .int .i64 a3.U, .int .i64 a3.V], .blk b21 61 [.int .u8 a4.a0, .int .u8 a4.a1, .int .u8 a4.a2, .int .u8 a4.a3], .blk b23 25 [.int .i64 0, .int .i64 0, .slice none 0 0, .slice none 0 0, .slice none 0 0, .slice none 0 0], .hole, .hole, .hole, .row (.slice A43 v26.1.Frame.Tri.length cp44) 3 kInt.sz v26.1.Frame.Tri.length cs45, .blk b48 121 [.int .i64 v26.1.Frame.W, .int .i64 v26.1.Frame.H, .slice A28 v26.1.Frame.Color.length cp29, .slice A33 v26.1.Frame.Depth.length cp34, .slice A38 v26.1.Frame.Item.length cp39, .slice A43 v26.1.Frame.Tri.length cp44]] [RE.rd k_Ar4_Int A1 cp2 a0.Color, RE.rd kInt A5 cp6 a0.Depth, RE.rd kInt A9 cp10 a0.Item, RE.rd kInt A13 cp14 a0.Tri, RE.hole, RE.hole, RE.hole, RE.chunks kInt cs45 v26.1.Frame.Tri]) => (x_load (j := 5) (v := .slice A43 v26.1.Frame.Tri.length cp44) sc23 (by rfl) (H.cells (i := 8) (by rfl)) (by rfl))) ?_
      refine PR_free (by rfl) (by rfl) (by rfl) (by exact wn0 rfl) (fun wS => (x_move (v := .int .i64 v26.2.1) (by rfl))) ?_
      refine PR_take (by rfl) (by rfl) (by rfl) (by exact wn0 rfl) (fun wS (H : Sep ok w wS [.blk b17 25 [.int .i64 a0.W, .int .i64 a0.H, .slice A1 a0.Color.length cp2, .slice A5 a0.Depth.length cp6, .slice A9 a0.Item.length cp10, .slice A13 a0.Tri.length cp14], .blk b19 68 [.int .i64 a3.D, .int .i64 a3.Item, .int .i64 a3.Tri, .int .i64 0, .int .i64 a3.U, .int .i64 a3.V], .blk b21 61 [.int .u8 a4.a0, .int .u8 a4.a1, .int .u8 a4.a2, .int .u8 a4.a3], .blk b23 25 [.int .i64 0, .int .i64 0, .slice none 0 0, .slice none 0 0, .slice none 0 0, .slice none 0 0], .hole, .hole, .hole, .row (.slice A43 v26.1.Frame.Tri.length cp44) 3 kInt.sz v26.1.Frame.Tri.length cs45, .blk b48 121 [.int .i64 v26.1.Frame.W, .int .i64 v26.1.Frame.H, .slice A28 v26.1.Frame.Color.length cp29, .slice A33 v26.1.Frame.Depth.length cp34, .slice A38 v26.1.Frame.Item.length cp39, .slice A43 v26.1.Frame.Tri.length cp44]] [RE.rd k_Ar4_Int A1 cp2 a0.Color, RE.rd kInt A5 cp6 a0.Depth, RE.rd kInt A9 cp10 a0.Item, RE.rd kInt A13 cp14 a0.Tri, RE.hole, RE.hole, RE.hole, RE.chunks kInt cs45 v26.1.Frame.Tri]) => (x_loadA (j := 0) (vs := [.int .u8 a4.a0, .int .u8 a4.a1, .int .u8 a4.a2, .int .u8 a4.a3]) ag61 (by rfl) (H.cells (i := 2) (by rfl)) (by rfl) (by rfl))) ?_
      refine PR_free (by rfl) (by rfl) (by rfl) (by exact wn0 rfl) (fun wS => (x_fieldAddr fo68_0 (by rfl))) ?_
      refine PR_take (by rfl) (by rfl) (by rfl) (by exact wn0 rfl) (fun wS (H : Sep ok w wS [.blk b17 25 [.int .i64 a0.W, .int .i64 a0.H, .slice A1 a0.Color.length cp2, .slice A5 a0.Depth.length cp6, .slice A9 a0.Item.length cp10, .slice A13 a0.Tri.length cp14], .blk b19 68 [.int .i64 a3.D, .int .i64 a3.Item, .int .i64 a3.Tri, .int .i64 0, .int .i64 a3.U, .int .i64 a3.V], .blk b21 61 [.int .u8 a4.a0, .int .u8 a4.a1, .int .u8 a4.a2, .int .u8 a4.a3], .blk b23 25 [.int .i64 0, .int .i64 0, .slice none 0 0, .slice none 0 0, .slice none 0 0, .slice none 0 0], .hole, .hole, .hole, .row (.slice A43 v26.1.Frame.Tri.length cp44) 3 kInt.sz v26.1.Frame.Tri.length cs45, .blk b48 121 [.int .i64 v26.1.Frame.W, .int .i64 v26.1.Frame.H, .slice A28 v26.1.Frame.Color.length cp29, .slice A33 v26.1.Frame.Depth.length cp34, .slice A38 v26.1.Frame.Item.length cp39, .slice A43 v26.1.Frame.Tri.length cp44]] [RE.rd k_Ar4_Int A1 cp2 a0.Color, RE.rd kInt A5 cp6 a0.Depth, RE.rd kInt A9 cp10 a0.Item, RE.rd kInt A13 cp14 a0.Tri, RE.hole, RE.hole, RE.hole, RE.chunks kInt cs45 v26.1.Frame.Tri]) => (x_load (j := 0) (v := .int .i64 a3.D) sc3 (by rfl) (H.cells (i := 1) (by rfl)) (by rfl))) ?_
      refine PR_free (by rfl) (by rfl) (by rfl) (by exact wn0 rfl) (fun wS => (x_fieldAddr fo68_1 (by rfl))) ?_
      refine PR_take (by rfl) (by rfl) (by rfl) (by exact wn0 rfl) (fun wS (H : Sep ok w wS [.blk b17 25 [.int .i64 a0.W, .int .i64 a0.H, .slice A1 a0.Color.length cp2, .slice A5 a0.Depth.length cp6, .slice A9 a0.Item.length cp10, .slice A13 a0.Tri.length cp14], .blk b19 68 [.int .i64 a3.D, .int .i64 a3.Item, .int .i64 a3.Tri, .int .i64 0, .int .i64 a3.U, .int .i64 a3.V], .blk b21 61 [.int .u8 a4.a0, .int .u8 a4.a1, .int .u8 a4.a2, .int .u8 a4.a3], .blk b23 25 [.int .i64 0, .int .i64 0, .slice none 0 0, .slice none 0 0, .slice none 0 0, .slice none 0 0], .hole, .hole, .hole, .row (.slice A43 v26.1.Frame.Tri.length cp44) 3 kInt.sz v26.1.Frame.Tri.length cs45, .blk b48 121 [.int .i64 v26.1.Frame.W, .int .i64 v26.1.Frame.H, .slice A28 v26.1.Frame.Color.length cp29, .slice A33 v26.1.Frame.Depth.length cp34, .slice A38 v26.1.Frame.Item.length cp39, .slice A43 v26.1.Frame.Tri.length cp44]] [RE.rd k_Ar4_Int A1 cp2 a0.Color, RE.rd kInt A5 cp6 a0.Depth, RE.rd kInt A9 cp10 a0.Item, RE.rd kInt A13 cp14 a0.Tri, RE.hole, RE.hole, RE.hole, RE.chunks kInt cs45 v26.1.Frame.Tri]) => (x_load (j := 1) (v := .int .i64 a3.Item) sc3 (by rfl) (H.cells (i := 1) (by rfl)) (by rfl))) ?_
      refine PR_free (by rfl) (by rfl) (by rfl) (by exact wn0 rfl) (fun wS => (x_fieldAddr fo68_2 (by rfl))) ?_
      refine PR_take (by rfl) (by rfl) (by rfl) (by exact wn0 rfl) (fun wS (H : Sep ok w wS [.blk b17 25 [.int .i64 a0.W, .int .i64 a0.H, .slice A1 a0.Color.length cp2, .slice A5 a0.Depth.length cp6, .slice A9 a0.Item.length cp10, .slice A13 a0.Tri.length cp14], .blk b19 68 [.int .i64 a3.D, .int .i64 a3.Item, .int .i64 a3.Tri, .int .i64 0, .int .i64 a3.U, .int .i64 a3.V], .blk b21 61 [.int .u8 a4.a0, .int .u8 a4.a1, .int .u8 a4.a2, .int .u8 a4.a3], .blk b23 25 [.int .i64 0, .int .i64 0, .slice none 0 0, .slice none 0 0, .slice none 0 0, .slice none 0 0], .hole, .hole, .hole, .row (.slice A43 v26.1.Frame.Tri.length cp44) 3 kInt.sz v26.1.Frame.Tri.length cs45, .blk b48 121 [.int .i64 v26.1.Frame.W, .int .i64 v26.1.Frame.H, .slice A28 v26.1.Frame.Color.length cp29, .slice A33 v26.1.Frame.Depth.length cp34, .slice A38 v26.1.Frame.Item.length cp39, .slice A43 v26.1.Frame.Tri.length cp44]] [RE.rd k_Ar4_Int A1 cp2 a0.Color, RE.rd kInt A5 cp6 a0.Depth, RE.rd kInt A9 cp10 a0.Item, RE.rd kInt A13 cp14 a0.Tri, RE.hole, RE.hole, RE.hole, RE.chunks kInt cs45 v26.1.Frame.Tri]) => (x_load (j := 2) (v := .int .i64 a3.Tri) sc3 (by rfl) (H.cells (i := 1) (by rfl)) (by rfl))) ?_
      obtain ⟨el97, h98, h99, he100, hm⟩ := idx_some hm
      obtain ⟨g102, _, hA101, _, _⟩ := H.rowIdx (i := 4) (j := 4) (by rfl) (by rfl) he100
      refine PR_free (by rfl) (by rfl) (by rfl) (by exact wn0 rfl) (fun wS => (x_indexAddr sl22 sz61 (by rfl) (by rfl) hA101 h98 h99)) ?_
      obtain ⟨l106, hl107, hm⟩ := lete_some hm
      refine PR_run (by rfl) (O_storeRow (D := k_Ar4_Int) (i := 4) (j := 4) (off := 0) (m := v26.2.1) (a := el97) (b := a4) (vs := [.int .u8 a4.a0, .int .u8 a4.a1, .int .u8 a4.a2, .int .u8 a4.a3]) (by exact wn0 rfl) H (by rfl) (by rfl) hA101 (by rfl) (by rfl) he100 (by rfl) sz61 (by rfl) (by rfl) (by intro ce hce; obtain rfl := hce; rfl) hl107 (fun w104 cs105 (H : Sep ok w w104 [.blk b17 25 [.int .i64 a0.W, .int .i64 a0.H, .slice A1 a0.Color.length cp2, .slice A5 a0.Depth.length cp6, .slice A9 a0.Item.length cp10, .slice A13 a0.Tri.length cp14], .blk b19 68 [.int .i64 a3.D, .int .i64 a3.Item, .int .i64 a3.Tri, .int .i64 0, .int .i64 a3.U, .int .i64 a3.V], .blk b21 61 [.int .u8 a4.a0, .int .u8 a4.a1, .int .u8 a4.a2, .int .u8 a4.a3], .blk b23 25 [.int .i64 0, .int .i64 0, .slice none 0 0, .slice none 0 0, .slice none 0 0, .slice none 0 0], .row (.slice A28 l106.length cp29) 61 k_Ar4_Int.sz l106.length cs105, .row (.slice A33 v26.1.Frame.Depth.length cp34) 3 kInt.sz v26.1.Frame.Depth.length cs35, .row (.slice A38 v26.1.Frame.Item.length cp39) 3 kInt.sz v26.1.Frame.Item.length cs40, .row (.slice A43 v26.1.Frame.Tri.length cp44) 3 kInt.sz v26.1.Frame.Tri.length cs45, .blk b48 121 [.int .i64 v26.1.Frame.W, .int .i64 v26.1.Frame.H, .slice A28 v26.1.Frame.Color.length cp29, .slice A33 v26.1.Frame.Depth.length cp34, .slice A38 v26.1.Frame.Item.length cp39, .slice A43 v26.1.Frame.Tri.length cp44]] [RE.rd k_Ar4_Int A1 cp2 a0.Color, RE.rd kInt A5 cp6 a0.Depth, RE.rd kInt A9 cp10 a0.Item, RE.rd kInt A13 cp14 a0.Tri, RE.chunks k_Ar4_Int cs105 l106, RE.chunks kInt cs35 v26.1.Frame.Depth, RE.chunks kInt cs40 v26.1.Frame.Item, RE.chunks kInt cs45 v26.1.Frame.Tri]) => ⟨(Sep.holeR (Sep.holeR (Sep.holeR (Sep.holeL (Sep.holeL (Sep.holeL H 4) 5) 6) 4) 5) 6), ?_⟩))
      obtain ⟨el108, h109, h110, he111, hm⟩ := idx_some hm
      obtain ⟨g113, _, hA112, _, _⟩ := H.rowIdx (i := 5) (j := 5) (by rfl) (by rfl) he111
      refine PR_free (by rfl) (by rfl) (by rfl) (by exact wn0 rfl) (fun wS => (x_indexAddr sl23 sz3 (by rfl) (by rfl) hA112 h109 h110)) ?_
      obtain ⟨l117, hl118, hm⟩ := lete_some hm
      refine PR_run (by rfl) (O_storeRow (D := kInt) (i := 5) (j := 5) (off := 0) (m := v26.2.1) (a := el108) (b := a3.D) (vs := [.int .i64 a3.D]) (by exact wn0 rfl) H (by rfl) (by rfl) hA112 (by rfl) (by rfl) he111 (by rfl) sz3 (by rfl) (by rfl) (by intro ce hce; obtain rfl := hce; rfl) hl118 (fun w115 cs116 (H : Sep ok w w115 [.blk b17 25 [.int .i64 a0.W, .int .i64 a0.H, .slice A1 a0.Color.length cp2, .slice A5 a0.Depth.length cp6, .slice A9 a0.Item.length cp10, .slice A13 a0.Tri.length cp14], .blk b19 68 [.int .i64 a3.D, .int .i64 a3.Item, .int .i64 a3.Tri, .int .i64 0, .int .i64 a3.U, .int .i64 a3.V], .blk b21 61 [.int .u8 a4.a0, .int .u8 a4.a1, .int .u8 a4.a2, .int .u8 a4.a3], .blk b23 25 [.int .i64 0, .int .i64 0, .slice none 0 0, .slice none 0 0, .slice none 0 0, .slice none 0 0], .row (.slice A28 l106.length cp29) 61 k_Ar4_Int.sz l106.length cs105, .row (.slice A33 l117.length cp34) 3 kInt.sz l117.length cs116, .row (.slice A38 v26.1.Frame.Item.length cp39) 3 kInt.sz v26.1.Frame.Item.length cs40, .row (.slice A43 v26.1.Frame.Tri.length cp44) 3 kInt.sz v26.1.Frame.Tri.length cs45, .blk b48 121 [.int .i64 v26.1.Frame.W, .int .i64 v26.1.Frame.H, .slice A28 v26.1.Frame.Color.length cp29, .slice A33 v26.1.Frame.Depth.length cp34, .slice A38 v26.1.Frame.Item.length cp39, .slice A43 v26.1.Frame.Tri.length cp44]] [RE.rd k_Ar4_Int A1 cp2 a0.Color, RE.rd kInt A5 cp6 a0.Depth, RE.rd kInt A9 cp10 a0.Item, RE.rd kInt A13 cp14 a0.Tri, RE.chunks k_Ar4_Int cs105 l106, RE.chunks kInt cs116 l117, RE.chunks kInt cs40 v26.1.Frame.Item, RE.chunks kInt cs45 v26.1.Frame.Tri]) => ⟨(Sep.holeR (Sep.holeR (Sep.holeR (Sep.holeL (Sep.holeL (Sep.holeL H 4) 5) 6) 4) 5) 6), ?_⟩))
      obtain ⟨el119, h120, h121, he122, hm⟩ := idx_some hm
      obtain ⟨g124, _, hA123, _, _⟩ := H.rowIdx (i := 6) (j := 6) (by rfl) (by rfl) he122
      refine PR_free (by rfl) (by rfl) (by rfl) (by exact wn0 rfl) (fun wS => (x_indexAddr sl23 sz3 (by rfl) (by rfl) hA123 h120 h121)) ?_
      obtain ⟨l128, hl129, hm⟩ := lete_some hm
      refine PR_run (by rfl) (O_storeRow (D := kInt) (i := 6) (j := 6) (off := 0) (m := v26.2.1) (a := el119) (b := a3.Item) (vs := [.int .i64 a3.Item]) (by exact wn0 rfl) H (by rfl) (by rfl) hA123 (by rfl) (by rfl) he122 (by rfl) sz3 (by rfl) (by rfl) (by intro ce hce; obtain rfl := hce; rfl) hl129 (fun w126 cs127 (H : Sep ok w w126 [.blk b17 25 [.int .i64 a0.W, .int .i64 a0.H, .slice A1 a0.Color.length cp2, .slice A5 a0.Depth.length cp6, .slice A9 a0.Item.length cp10, .slice A13 a0.Tri.length cp14], .blk b19 68 [.int .i64 a3.D, .int .i64 a3.Item, .int .i64 a3.Tri, .int .i64 0, .int .i64 a3.U, .int .i64 a3.V], .blk b21 61 [.int .u8 a4.a0, .int .u8 a4.a1, .int .u8 a4.a2, .int .u8 a4.a3], .blk b23 25 [.int .i64 0, .int .i64 0, .slice none 0 0, .slice none 0 0, .slice none 0 0, .slice none 0 0], .row (.slice A28 l106.length cp29) 61 k_Ar4_Int.sz l106.length cs105, .row (.slice A33 l117.length cp34) 3 kInt.sz l117.length cs116, .row (.slice A38 l128.length cp39) 3 kInt.sz l128.length cs127, .row (.slice A43 v26.1.Frame.Tri.length cp44) 3 kInt.sz v26.1.Frame.Tri.length cs45, .blk b48 121 [.int .i64 v26.1.Frame.W, .int .i64 v26.1.Frame.H, .slice A28 v26.1.Frame.Color.length cp29, .slice A33 v26.1.Frame.Depth.length cp34, .slice A38 v26.1.Frame.Item.length cp39, .slice A43 v26.1.Frame.Tri.length cp44]] [RE.rd k_Ar4_Int A1 cp2 a0.Color, RE.rd kInt A5 cp6 a0.Depth, RE.rd kInt A9 cp10 a0.Item, RE.rd kInt A13 cp14 a0.Tri, RE.chunks k_Ar4_Int cs105 l106, RE.chunks kInt cs116 l117, RE.chunks kInt cs127 l128, RE.chunks kInt cs45 v26.1.Frame.Tri]) => ⟨(Sep.holeR (Sep.holeR (Sep.holeR (Sep.holeL (Sep.holeL (Sep.holeL H 4) 5) 6) 4) 5) 6), ?_⟩))
      obtain ⟨el130, h131, h132, he133, hm⟩ := idx_some hm
      obtain ⟨g135, _, hA134, _, _⟩ := H.rowIdx (i := 7) (j := 7) (by rfl) (by rfl) he133
      refine PR_free (by rfl) (by rfl) (by rfl) (by exact wn0 rfl) (fun wS => (x_indexAddr sl23 sz3 (by rfl) (by rfl) hA134 h131 h132)) ?_
      obtain ⟨l139, hl140, hm⟩ := lete_some hm
      refine PR_tail (by rfl) (O_storeRow (D := kInt) (i := 7) (j := 7) (off := 0) (m := v26.2.1) (a := el130) (b := a3.Tri) (vs := [.int .i64 a3.Tri]) (by exact wn0 rfl) H (by rfl) (by rfl) hA134 (by rfl) (by rfl) he133 (by rfl) sz3 (by rfl) (by rfl) (by intro ce hce; obtain rfl := hce; rfl) hl140 (fun w137 cs138 (H : Sep ok w w137 [.blk b17 25 [.int .i64 a0.W, .int .i64 a0.H, .slice A1 a0.Color.length cp2, .slice A5 a0.Depth.length cp6, .slice A9 a0.Item.length cp10, .slice A13 a0.Tri.length cp14], .blk b19 68 [.int .i64 a3.D, .int .i64 a3.Item, .int .i64 a3.Tri, .int .i64 0, .int .i64 a3.U, .int .i64 a3.V], .blk b21 61 [.int .u8 a4.a0, .int .u8 a4.a1, .int .u8 a4.a2, .int .u8 a4.a3], .blk b23 25 [.int .i64 0, .int .i64 0, .slice none 0 0, .slice none 0 0, .slice none 0 0, .slice none 0 0], .row (.slice A28 l106.length cp29) 61 k_Ar4_Int.sz l106.length cs105, .row (.slice A33 l117.length cp34) 3 kInt.sz l117.length cs116, .row (.slice A38 l128.length cp39) 3 kInt.sz l128.length cs127, .row (.slice A43 l139.length cp44) 3 kInt.sz l139.length cs138, .blk b48 121 [.int .i64 v26.1.Frame.W, .int .i64 v26.1.Frame.H, .slice A28 v26.1.Frame.Color.length cp29, .slice A33 v26.1.Frame.Depth.length cp34, .slice A38 v26.1.Frame.Item.length cp39, .slice A43 v26.1.Frame.Tri.length cp44]] [RE.rd k_Ar4_Int A1 cp2 a0.Color, RE.rd kInt A5 cp6 a0.Depth, RE.rd kInt A9 cp10 a0.Item, RE.rd kInt A13 cp14 a0.Tri, RE.chunks k_Ar4_Int cs105 l106, RE.chunks kInt cs116 l117, RE.chunks kInt cs127 l128, RE.chunks kInt cs138 l139]) => ?_))
      refine PR_nil ?_
      have hn141 : v26.1.Frame.Color.length = l106.length := by rw [← hl107]; exact (List.length_set ..).symm
      have hn142 : v26.1.Frame.Depth.length = l117.length := by rw [← hl118]; exact (List.length_set ..).symm
      have hn143 : v26.1.Frame.Item.length = l128.length := by rw [← hl129]; exact (List.length_set ..).symm
      have hn144 : v26.1.Frame.Tri.length = l139.length := by rw [← hl140]; exact (List.length_set ..).symm
      have H : Sep ok w w137 [.blk b17 25 [.int .i64 a0.W, .int .i64 a0.H, .slice A1 a0.Color.length cp2, .slice A5 a0.Depth.length cp6, .slice A9 a0.Item.length cp10, .slice A13 a0.Tri.length cp14], .blk b19 68 [.int .i64 a3.D, .int .i64 a3.Item, .int .i64 a3.Tri, .int .i64 0, .int .i64 a3.U, .int .i64 a3.V], .blk b21 61 [.int .u8 a4.a0, .int .u8 a4.a1, .int .u8 a4.a2, .int .u8 a4.a3], .blk b23 25 [.int .i64 0, .int .i64 0, .slice none 0 0, .slice none 0 0, .slice none 0 0, .slice none 0 0], .row (.slice A28 l106.length cp29) 61 k_Ar4_Int.sz l106.length cs105, .row (.slice A33 l117.length cp34) 3 kInt.sz l117.length cs116, .row (.slice A38 l128.length cp39) 3 kInt.sz l128.length cs127, .row (.slice A43 l139.length cp44) 3 kInt.sz l139.length cs138, .blk b48 121 [.int .i64 v26.1.Frame.W, .int .i64 v26.1.Frame.H, .slice A28 l106.length cp29, .slice A33 l117.length cp34, .slice A38 l128.length cp39, .slice A43 l139.length cp44]] [RE.rd k_Ar4_Int A1 cp2 a0.Color, RE.rd kInt A5 cp6 a0.Depth, RE.rd kInt A9 cp10 a0.Item, RE.rd kInt A13 cp14 a0.Tri, RE.chunks k_Ar4_Int cs105 l106, RE.chunks kInt cs116 l117, RE.chunks kInt cs127 l128, RE.chunks kInt cs138 l139] := by (try rw [hn141] at H; try rw [hn142] at H; try rw [hn143] at H; try rw [hn144] at H); exact H
      exact ⟨l106, l117, l128, l139, A28, cp29, cs105, A33, cp34, cs116, A38, cp39, cs127, A43, cp44, cs138, hm, ⟨rfl, rfl, trivial⟩, H⟩
     ·have hm := cond_f hb hm
      refine W_skip ?_
      exact ⟨v26.1.Frame.Color, v26.1.Frame.Depth, v26.1.Frame.Item, v26.1.Frame.Tri, A28, cp29, cs30, A33, cp34, cs35, A38, cp39, cs40, A43, cp44, cs45, hm, ⟨rfl, rfl, trivial⟩, H⟩
   ·rintro r' w' ⟨l_row31_1, l_row36_1, l_row41_1, l_row46_1, A_row31_1, c_row31_1, cs_row31_1, A_row36_1, c_row36_1, cs_row36_1, A_row41_1, c_row41_1, cs_row41_1, A_row46_1, c_row46_1, cs_row46_1, hm, hA, H⟩
    obtain ⟨r145, rfl⟩ := regen _ hA; clear hA
    obtain ⟨w146, rfl⟩ : ∃ W : World, W = w' := ⟨_, rfl⟩
    unfold m30_j1 at hm
    refine W_seq ?_
    refine W_region ?_
    refine RL_pure (by exact wn0 rfl) (by rfl) (by rfl) (x_fieldAddr fo121_0 (by rfl)) ?_
    refine RL_pure (by exact wn0 rfl) (by rfl) (by rfl) (x_loadA (j := 0) (vs := [.int .i64 v26.1.Frame.W, .int .i64 v26.1.Frame.H, .slice A_row31_1 l_row31_1.length c_row31_1, .slice A_row36_1 l_row36_1.length c_row36_1, .slice A_row41_1 l_row41_1.length c_row41_1, .slice A_row46_1 l_row46_1.length c_row46_1]) ag25 (by rfl) (H.cells (i := 8) (by rfl)) (by rfl) (by rfl)) ?_
    refine RL_cons (O_store (i := 3) (off := 0) (by exact wn0 rfl) (by rfl) (by rfl) H (by rfl) (vs := [.int .i64 v26.1.Frame.W, .int .i64 v26.1.Frame.H, .slice A_row31_1 l_row31_1.length c_row31_1, .slice A_row36_1 l_row36_1.length c_row36_1, .slice A_row41_1 l_row41_1.length c_row41_1, .slice A_row46_1 l_row46_1.length c_row46_1]) (by rfl) sz25 (by rfl) (by rfl) (by rfl) (fun w147 (H : Sep ok w w147 [.blk b17 25 [.int .i64 a0.W, .int .i64 a0.H, .slice A1 a0.Color.length cp2, .slice A5 a0.Depth.length cp6, .slice A9 a0.Item.length cp10, .slice A13 a0.Tri.length cp14], .blk b19 68 [.int .i64 a3.D, .int .i64 a3.Item, .int .i64 a3.Tri, .int .i64 0, .int .i64 a3.U, .int .i64 a3.V], .blk b21 61 [.int .u8 a4.a0, .int .u8 a4.a1, .int .u8 a4.a2, .int .u8 a4.a3], .blk b23 25 [.int .i64 v26.1.Frame.W, .int .i64 v26.1.Frame.H, .slice A_row31_1 l_row31_1.length c_row31_1, .slice A_row36_1 l_row36_1.length c_row36_1, .slice A_row41_1 l_row41_1.length c_row41_1, .slice A_row46_1 l_row46_1.length c_row46_1], .row (.slice A_row31_1 l_row31_1.length c_row31_1) 61 k_Ar4_Int.sz l_row31_1.length cs_row31_1, .row (.slice A_row36_1 l_row36_1.length c_row36_1) 3 kInt.sz l_row36_1.length cs_row36_1, .row (.slice A_row41_1 l_row41_1.length c_row41_1) 3 kInt.sz l_row41_1.length cs_row41_1, .row (.slice A_row46_1 l_row46_1.length c_row46_1) 3 kInt.sz l_row46_1.length cs_row46_1, .blk b48 121 [.int .i64 v26.1.Frame.W, .int .i64 v26.1.Frame.H, .slice A_row31_1 l_row31_1.length c_row31_1, .slice A_row36_1 l_row36_1.length c_row36_1, .slice A_row41_1 l_row41_1.length c_row41_1, .slice A_row46_1 l_row46_1.length c_row46_1]] [RE.rd k_Ar4_Int A1 cp2 a0.Color, RE.rd kInt A5 cp6 a0.Depth, RE.rd kInt A9 cp10 a0.Item, RE.rd kInt A13 cp14 a0.Tri, RE.chunks k_Ar4_Int cs_row31_1 l_row31_1, RE.chunks kInt cs_row36_1 l_row36_1, RE.chunks kInt cs_row41_1 l_row41_1, RE.chunks kInt cs_row46_1 l_row46_1]) => ?_))
    refine RL_pure (by exact wn0 rfl) (by rfl) (by rfl) (x_assign (v := .int .i64 0) (by rfl)) ?_
    refine RL_nil ?_
    refine W_ret ?_
    have H : Sep ok w w147 [.blk b17 25 [.int .i64 a0.W, .int .i64 a0.H, .slice A1 a0.Color.length cp2, .slice A5 a0.Depth.length cp6, .slice A9 a0.Item.length cp10, .slice A13 a0.Tri.length cp14], .blk b19 68 [.int .i64 a3.D, .int .i64 a3.Item, .int .i64 a3.Tri, .int .i64 0, .int .i64 a3.U, .int .i64 a3.V], .blk b21 61 [.int .u8 a4.a0, .int .u8 a4.a1, .int .u8 a4.a2, .int .u8 a4.a3], .blk b23 25 [.int .i64 v26.1.Frame.W, .int .i64 v26.1.Frame.H, .slice A_row31_1 l_row31_1.length c_row31_1, .slice A_row36_1 l_row36_1.length c_row36_1, .slice A_row41_1 l_row41_1.length c_row41_1, .slice A_row46_1 l_row46_1.length c_row46_1], .hole, .row (.slice A_row36_1 l_row36_1.length c_row36_1) 3 kInt.sz l_row36_1.length cs_row36_1, .row (.slice A_row41_1 l_row41_1.length c_row41_1) 3 kInt.sz l_row41_1.length cs_row41_1, .row (.slice A_row46_1 l_row46_1.length c_row46_1) 3 kInt.sz l_row46_1.length cs_row46_1, .blk b48 121 [.int .i64 v26.1.Frame.W, .int .i64 v26.1.Frame.H, .slice A_row31_1 l_row31_1.length c_row31_1, .slice A_row36_1 l_row36_1.length c_row36_1, .slice A_row41_1 l_row41_1.length c_row41_1, .slice A_row46_1 l_row46_1.length c_row46_1]] [RE.rd k_Ar4_Int A1 cp2 a0.Color, RE.rd kInt A5 cp6 a0.Depth, RE.rd kInt A9 cp10 a0.Item, RE.rd kInt A13 cp14 a0.Tri, RE.rd k_Ar4_Int A_row31_1 c_row31_1 l_row31_1, RE.chunks kInt cs_row36_1 l_row36_1, RE.chunks kInt cs_row41_1 l_row41_1, RE.chunks kInt cs_row46_1 l_row46_1] := H.frozen (i := 4) (j := 4) (by rfl) (by rfl)
    have H : Sep ok w w147 [.blk b17 25 [.int .i64 a0.W, .int .i64 a0.H, .slice A1 a0.Color.length cp2, .slice A5 a0.Depth.length cp6, .slice A9 a0.Item.length cp10, .slice A13 a0.Tri.length cp14], .blk b19 68 [.int .i64 a3.D, .int .i64 a3.Item, .int .i64 a3.Tri, .int .i64 0, .int .i64 a3.U, .int .i64 a3.V], .blk b21 61 [.int .u8 a4.a0, .int .u8 a4.a1, .int .u8 a4.a2, .int .u8 a4.a3], .blk b23 25 [.int .i64 v26.1.Frame.W, .int .i64 v26.1.Frame.H, .slice A_row31_1 l_row31_1.length c_row31_1, .slice A_row36_1 l_row36_1.length c_row36_1, .slice A_row41_1 l_row41_1.length c_row41_1, .slice A_row46_1 l_row46_1.length c_row46_1], .hole, .hole, .row (.slice A_row41_1 l_row41_1.length c_row41_1) 3 kInt.sz l_row41_1.length cs_row41_1, .row (.slice A_row46_1 l_row46_1.length c_row46_1) 3 kInt.sz l_row46_1.length cs_row46_1, .blk b48 121 [.int .i64 v26.1.Frame.W, .int .i64 v26.1.Frame.H, .slice A_row31_1 l_row31_1.length c_row31_1, .slice A_row36_1 l_row36_1.length c_row36_1, .slice A_row41_1 l_row41_1.length c_row41_1, .slice A_row46_1 l_row46_1.length c_row46_1]] [RE.rd k_Ar4_Int A1 cp2 a0.Color, RE.rd kInt A5 cp6 a0.Depth, RE.rd kInt A9 cp10 a0.Item, RE.rd kInt A13 cp14 a0.Tri, RE.rd k_Ar4_Int A_row31_1 c_row31_1 l_row31_1, RE.rd kInt A_row36_1 c_row36_1 l_row36_1, RE.chunks kInt cs_row41_1 l_row41_1, RE.chunks kInt cs_row46_1 l_row46_1] := H.frozen (i := 5) (j := 5) (by rfl) (by rfl)
    have H : Sep ok w w147 [.blk b17 25 [.int .i64 a0.W, .int .i64 a0.H, .slice A1 a0.Color.length cp2, .slice A5 a0.Depth.length cp6, .slice A9 a0.Item.length cp10, .slice A13 a0.Tri.length cp14], .blk b19 68 [.int .i64 a3.D, .int .i64 a3.Item, .int .i64 a3.Tri, .int .i64 0, .int .i64 a3.U, .int .i64 a3.V], .blk b21 61 [.int .u8 a4.a0, .int .u8 a4.a1, .int .u8 a4.a2, .int .u8 a4.a3], .blk b23 25 [.int .i64 v26.1.Frame.W, .int .i64 v26.1.Frame.H, .slice A_row31_1 l_row31_1.length c_row31_1, .slice A_row36_1 l_row36_1.length c_row36_1, .slice A_row41_1 l_row41_1.length c_row41_1, .slice A_row46_1 l_row46_1.length c_row46_1], .hole, .hole, .hole, .row (.slice A_row46_1 l_row46_1.length c_row46_1) 3 kInt.sz l_row46_1.length cs_row46_1, .blk b48 121 [.int .i64 v26.1.Frame.W, .int .i64 v26.1.Frame.H, .slice A_row31_1 l_row31_1.length c_row31_1, .slice A_row36_1 l_row36_1.length c_row36_1, .slice A_row41_1 l_row41_1.length c_row41_1, .slice A_row46_1 l_row46_1.length c_row46_1]] [RE.rd k_Ar4_Int A1 cp2 a0.Color, RE.rd kInt A5 cp6 a0.Depth, RE.rd kInt A9 cp10 a0.Item, RE.rd kInt A13 cp14 a0.Tri, RE.rd k_Ar4_Int A_row31_1 c_row31_1 l_row31_1, RE.rd kInt A_row36_1 c_row36_1 l_row36_1, RE.rd kInt A_row41_1 c_row41_1 l_row41_1, RE.chunks kInt cs_row46_1 l_row46_1] := H.frozen (i := 6) (j := 6) (by rfl) (by rfl)
    have H : Sep ok w w147 [.blk b17 25 [.int .i64 a0.W, .int .i64 a0.H, .slice A1 a0.Color.length cp2, .slice A5 a0.Depth.length cp6, .slice A9 a0.Item.length cp10, .slice A13 a0.Tri.length cp14], .blk b19 68 [.int .i64 a3.D, .int .i64 a3.Item, .int .i64 a3.Tri, .int .i64 0, .int .i64 a3.U, .int .i64 a3.V], .blk b21 61 [.int .u8 a4.a0, .int .u8 a4.a1, .int .u8 a4.a2, .int .u8 a4.a3], .blk b23 25 [.int .i64 v26.1.Frame.W, .int .i64 v26.1.Frame.H, .slice A_row31_1 l_row31_1.length c_row31_1, .slice A_row36_1 l_row36_1.length c_row36_1, .slice A_row41_1 l_row41_1.length c_row41_1, .slice A_row46_1 l_row46_1.length c_row46_1], .hole, .hole, .hole, .hole, .blk b48 121 [.int .i64 v26.1.Frame.W, .int .i64 v26.1.Frame.H, .slice A_row31_1 l_row31_1.length c_row31_1, .slice A_row36_1 l_row36_1.length c_row36_1, .slice A_row41_1 l_row41_1.length c_row41_1, .slice A_row46_1 l_row46_1.length c_row46_1]] [RE.rd k_Ar4_Int A1 cp2 a0.Color, RE.rd kInt A5 cp6 a0.Depth, RE.rd kInt A9 cp10 a0.Item, RE.rd kInt A13 cp14 a0.Tri, RE.rd k_Ar4_Int A_row31_1 c_row31_1 l_row31_1, RE.rd kInt A_row36_1 c_row36_1 l_row36_1, RE.rd kInt A_row41_1 c_row41_1 l_row41_1, RE.rd kInt A_row46_1 c_row46_1 l_row46_1] := H.frozen (i := 7) (j := 7) (by rfl) (by rfl)
    obtain rfl := Option.some.inj hm
    exact ⟨[.agg #[.int .i64 v26.1.Frame.W, .int .i64 v26.1.Frame.H, .slice A_row31_1 l_row31_1.length c_row31_1, .slice A_row36_1 l_row36_1.length c_row36_1, .slice A_row41_1 l_row41_1.length c_row41_1, .slice A_row46_1 l_row46_1.length c_row46_1], .int .i64 0], (.cellA (by rfl) ag25 (H.cells (i := 3) (by rfl)) (by rfl) (.tmp (by rfl) rfl)), A_row31_1, c_row31_1, A_row36_1, c_row36_1, A_row41_1, c_row41_1, A_row46_1, c_row46_1, rfl, (H.forgetAll).pick [4, 5, 6, 7]⟩
end Go.Proofs.YtobkigllalbkiaaV.M

/- A plain Lean function that answers as the Go function does (none: not told), and the proof that a call answers so. Written by program. -/
set_option linter.unusedVariables false
namespace Go.Proofs.YtobkigllalbkiaaV.M
open Go.RowKit Go.Proofs.YtobkigllalbkiaaV
/-- diorama/shade.Over$1 -/
def m114 (K : Nat) (a0 : Int) (a1 : Int) (f0 : Int) : Option (Int) :=
 (ck a0 fun x4 => (ck (x4 * f0) fun x5 => (ck a1 fun x6 => (ck (255 - f0) fun x7 => (ck (x6 * x7) fun x8 => (ck (x5 + x8) fun x9 => (ck (Int.tdiv x9 255) fun x10 => some (IntKind.u8.wrap x10))))))))
set_option maxRecDepth 100000 in
set_option maxHeartbeats 4000000 in
theorem c114 (ok : Nat → Prop) (K : Nat) (w : World) (a0 : Int) (a1 : Int) (f0 : Int) (g1 : Nat) (hF2 : (RE.cells g1 (0) [.int .i64 f0]).rel w ok) (res : Int) (hm : m114 K a0 a1 f0 = some res) :
  Calls Try.prog 114 #[.int .u8 a0, .int .u8 a1, .pointer (some ⟨g1, 0, none⟩)] w (fun e w' => e = .returned (tup [.int .u8 res]) ∧ Sep ok w w' [] []) := by
 refine calls_W (args := [.int .u8 a0, .int .u8 a1, .pointer (some ⟨g1, 0, none⟩)]) Try.func114 rfl Try.ntmps114 Try.results114 rfl fun r hr => ?_
 obtain ⟨r1, rfl⟩ := regen (r := r) [(0, .int .u8 a0), (1, .int .u8 a1), (2, .pointer (some ⟨g1, 0, none⟩))] ⟨hr 0 _ rfl, hr 1 _ rfl, hr 2 _ rfl, trivial⟩
 have H : Sep ok w w [] [RE.cells g1 (0) [.int .i64 f0]] := Sep.arg (Sep.start ok w) (re := RE.cells g1 (0) [.int .i64 f0]) rfl rfl hF2
 unfold m114 at hm
 refine W_seq ?_
 refine W_region ?_
 refine RL_pure (by exact wn0 rfl) (by rfl) (by rfl) (x_assign (v := .int .u8 0) (by rfl)) ?_
 refine RL_nil ?_
 refine W_seq ?_
 refine W_region ?_
 refine RL_pure (by exact wn0 rfl) (by rfl) (by rfl) (x_move (v := .int .u8 a0) (by rfl)) ?_
 obtain ⟨x4, ex4, qx4, ux4, hm⟩ := ck_some hm
 refine RL_pure (by exact wn0 rfl) (by rfl) (by rfl) (x_conv is5 un3 (by rfl) ux4) ?_
 refine RL_pure (by exact wn0 rfl) (by rfl) (by rfl) (x_load (j := 0) (v := .int .i64 f0) sc3 (by rfl) (H.cellsR (i := 0) (by rfl)) (by rfl)) ?_
 obtain ⟨x5, ex5, qx5, ux5, hm⟩ := ck_some hm
 refine RL_pure (by exact wn0 rfl) (by rfl) (by rfl) (x_mul (by rfl) (by rfl) ux5) ?_
 refine RL_pure (by exact wn0 rfl) (by rfl) (by rfl) (x_move (v := .int .u8 a1) (by rfl)) ?_
 obtain ⟨x6, ex6, qx6, ux6, hm⟩ := ck_some hm
 refine RL_pure (by exact wn0 rfl) (by rfl) (by rfl) (x_conv is5 un3 (by rfl) ux6) ?_
 refine RL_pure (by exact wn0 rfl) (by rfl) (by rfl) (x_load (j := 0) (v := .int .i64 f0) sc3 (by rfl) (H.cellsR (i := 0) (by rfl)) (by rfl)) ?_
 obtain ⟨x7, ex7, qx7, ux7, hm⟩ := ck_some hm
 refine RL_pure (by exact wn0 rfl) (by rfl) (by rfl) (x_sub (by rfl) (by rfl) ux7) ?_
 obtain ⟨x8, ex8, qx8, ux8, hm⟩ := ck_some hm
 refine RL_pure (by exact wn0 rfl) (by rfl) (by rfl) (x_mul (by rfl) (by rfl) ux8) ?_
 obtain ⟨x9, ex9, qx9, ux9, hm⟩ := ck_some hm
 refine RL_pure (by exact wn0 rfl) (by rfl) (by rfl) (x_add (by rfl) (by rfl) ux9) ?_
 obtain ⟨x10, ex10, qx10, ux10, hm⟩ := ck_some hm
 refine RL_pure (by exact wn0 rfl) (by rfl) (by rfl) (x_quo (by rfl) (by rfl) (by decide) ux10) ?_
 refine RL_pure (by exact wn0 rfl) (by rfl) (by rfl) (x_conv is3 un5 (by rfl) rfl) ?_
 refine RL_pure (by exact wn0 rfl) (by rfl) (by rfl) (x_assign (v := .int .u8 (IntKind.u8.wrap x10)) (by rfl)) ?_
 refine RL_nil ?_
 refine W_ret ?_
 obtain rfl := Option.some.inj hm
 exact ⟨[.int .u8 (IntKind.u8.wrap x10)], (.tmp (by rfl) rfl), rfl, H.none_⟩
end Go.Proofs.YtobkigllalbkiaaV.M

/- A plain Lean function that answers as the Go function does (none: not told), and the proof that a call answers so. Written by program. -/
set_option linter.unusedVariables false
namespace Go.Proofs.YtobkigllalbkiaaV.M
open Go.RowKit Go.Proofs.YtobkigllalbkiaaV
/-- diorama/shade.Over -/
def m72 (K : Nat) (a0 : (Ar4 Int)) (a1 : (Ar4 Int)) : Option ((Ar4 Int)) :=
 (ck a0.a3 fun x7 => ((m114 K a0.a0 a1.a0 x7).bind fun v13 => ((m114 K a0.a1 a1.a1 x7).bind fun v18 => ((m114 K a0.a2 a1.a2 x7).bind fun v23 => ((m114 K 255 a1.a3 x7).bind fun v27 => some (⟨v13, v18, v23, v27⟩ : (Ar4 Int)))))))
set_option maxRecDepth 100000 in
set_option maxHeartbeats 4000000 in
theorem c72 (ok : Nat → Prop) (K : Nat) (w : World) (a0 : (Ar4 Int)) (a1 : (Ar4 Int))  (res : (Ar4 Int)) (hm : m72 K a0 a1 = some res) :
  Calls Try.prog 72 #[.agg #[.int .u8 a0.a0, .int .u8 a0.a1, .int .u8 a0.a2, .int .u8 a0.a3], .agg #[.int .u8 a1.a0, .int .u8 a1.a1, .int .u8 a1.a2, .int .u8 a1.a3]] w (fun e w' => e = .returned (tup [.agg #[.int .u8 res.a0, .int .u8 res.a1, .int .u8 res.a2, .int .u8 res.a3]]) ∧ Sep ok w w' [] []) := by
 refine calls_W (args := [.agg #[.int .u8 a0.a0, .int .u8 a0.a1, .int .u8 a0.a2, .int .u8 a0.a3], .agg #[.int .u8 a1.a0, .int .u8 a1.a1, .int .u8 a1.a2, .int .u8 a1.a3]]) Try.func72 rfl Try.ntmps72 Try.results72 rfl fun r hr => ?_
 obtain ⟨r1, rfl⟩ := regen (r := r) [(0, .agg #[.int .u8 a0.a0, .int .u8 a0.a1, .int .u8 a0.a2, .int .u8 a0.a3]), (1, .agg #[.int .u8 a1.a0, .int .u8 a1.a1, .int .u8 a1.a2, .int .u8 a1.a3])] ⟨hr 0 _ rfl, hr 1 _ rfl, trivial⟩
 have H : Sep ok w w [] [] := Sep.start ok w
 unfold m72 at hm
 refine W_seq ?_
 refine W_region ?_
 refine RL_cons (O_box (by exact wn0 rfl) (by rfl) (by rfl) (by rfl) H (fun w2 b1 (H : Sep ok w w2 [.blk b1 61 [.int .u8 a0.a0, .int .u8 a0.a1, .int .u8 a0.a2, .int .u8 a0.a3]] []) => ?_))
 refine RL_cons (O_box (by exact wn0 rfl) (by rfl) (by rfl) (by rfl) H (fun w4 b3 (H : Sep ok w w4 [.blk b1 61 [.int .u8 a0.a0, .int .u8 a0.a1, .int .u8 a0.a2, .int .u8 a0.a3], .blk b3 61 [.int .u8 a1.a0, .int .u8 a1.a1, .int .u8 a1.a2, .int .u8 a1.a3]] []) => ?_))
 refine RL_cons (O_alloc (by exact wn0 rfl) (by rfl) ze61 (by rfl) H (fun w6 b5 (H : Sep ok w w6 [.blk b1 61 [.int .u8 a0.a0, .int .u8 a0.a1, .int .u8 a0.a2, .int .u8 a0.a3], .blk b3 61 [.int .u8 a1.a0, .int .u8 a1.a1, .int .u8 a1.a2, .int .u8 a1.a3], .blk b5 61 [.int .u8 0, .int .u8 0, .int .u8 0, .int .u8 0]] []) => ?_))
 refine RL_nil ?_
 refine W_seq ?_
 refine W_region ?_
 refine RL_pure (by exact wn0 rfl) (by rfl) (by rfl) (x_indexArr ar61 sz5 (by rfl) (by rfl) (by decide) (by decide)) ?_
 refine RL_pure (by exact wn0 rfl) (by rfl) (by rfl) (x_load (j := 3) (v := .int .u8 a0.a3) sc5 (by rfl) (H.cells (i := 0) (by rfl)) (by rfl)) ?_
 obtain ⟨x7, ex7, qx7, ux7, hm⟩ := ck_some hm
 refine RL_pure (by exact wn0 rfl) (by rfl) (by rfl) (x_conv is5 un3 (by rfl) ux7) ?_
 refine RL_cons (O_alloc (by exact wn0 rfl) (by rfl) ze3 (by rfl) H (fun w9 b8 (H : Sep ok w w9 [.blk b1 61 [.int .u8 a0.a0, .int .u8 a0.a1, .int .u8 a0.a2, .int .u8 a0.a3], .blk b3 61 [.int .u8 a1.a0, .int .u8 a1.a1, .int .u8 a1.a2, .int .u8 a1.a3], .blk b5 61 [.int .u8 0, .int .u8 0, .int .u8 0, .int .u8 0], .blk b8 3 [.int .i64 0]] []) => ?_))
 refine RL_cons (O_store (i := 3) (off := 0) (by exact wn0 rfl) (by rfl) (by rfl) H (by rfl) (vs := [.int .i64 x7]) (by rfl) sz3 (by rfl) (by rfl) (by rfl) (fun w10 (H : Sep ok w w10 [.blk b1 61 [.int .u8 a0.a0, .int .u8 a0.a1, .int .u8 a0.a2, .int .u8 a0.a3], .blk b3 61 [.int .u8 a1.a0, .int .u8 a1.a1, .int .u8 a1.a2, .int .u8 a1.a3], .blk b5 61 [.int .u8 0, .int .u8 0, .int .u8 0, .int .u8 0], .blk b8 3 [.int .i64 x7]] []) => ?_))
 refine RL_nil ?_
 refine W_seq ?_
 refine W_region ?_
 refine RL_pure (by exact wn0 rfl) (by rfl) (by rfl) (x_makeFunc (vs := [.pointer (some ⟨b8, 0, none⟩)]) (by rfl)) ?_
 refine RL_pure (by exact wn0 rfl) (by rfl) (by rfl) (x_assign (v := .func (.func 114) #[] #[.pointer (some ⟨b8, 0, none⟩)]) (by rfl)) ?_
 refine RL_nil ?_
 refine W_seq ?_
 refine W_seq ?_
 refine W_region ?_
 refine RL_pure (by exact wn0 rfl) (by rfl) (by rfl) (x_move (v := .int .i64 0) (by rfl)) ?_
 refine RL_nil ?_
 refine W_block ?_
 refine W_unroll 40 ?_
 refine WU_succ ?_
 refine W_seq ?_
 refine W_region ?_
 refine RL_pure (by exact wn0 rfl) (by rfl) (by rfl) (x_lss (by rfl) (by rfl)) ?_
 refine RL_nil ?_
 refine W_seq ?_
 refine W_cond (t := true) (by first | rfl | decide) (fun _ => ?_) (fun hb => by cases hb)
 refine W_skip ?_
 refine W_seq ?_
 refine W_block ?_
 refine W_seq ?_
 refine W_region ?_
 refine RL_pure (by exact wn0 rfl) (by rfl) (by rfl) (x_move (v := .int .i64 0) (by rfl)) ?_
 refine RL_pure (by exact wn0 rfl) (by rfl) (by rfl) (x_assign (v := .int .i64 0) (by rfl)) ?_
 refine RL_nil ?_
 refine W_draw [.free 0, .free 1, .free 2, .free 3, .take 4, .free 5, .free 6, .take 7, .tail 8, .free 9, .tail 10] (fun wS => Sep ok w wS [.blk b1 61 [.int .u8 a0.a0, .int .u8 a0.a1, .int .u8 a0.a2, .int .u8 a0.a3], .blk b3 61 [.int .u8 a1.a0, .int .u8 a1.a1, .int .u8 a1.a2, .int .u8 a1.a3], .blk b5 61 [.int .u8 0, .int .u8 0, .int .u8 0, .int .u8 0], .blk b8 3 [.int .i64 x7]] []) [8, 10] [0, 1, 2, 3, 5, 6, 9] mixed0 (by kernel_rfl) (by kernel_rfl) (by kernel_rfl) (by rfl) (by exact H.drew) ?_
 obtain ⟨w11, hW⟩ : ∃ W : World, W = { w10 with drawn := w10.drawn + 1 } := ⟨_, rfl⟩
 rw [← hW]
 have H : Sep ok w w11 [.blk b1 61 [.int .u8 a0.a0, .int .u8 a0.a1, .int .u8 a0.a2, .int .u8 a0.a3], .blk b3 61 [.int .u8 a1.a0, .int .u8 a1.a1, .int .u8 a1.a2, .int .u8 a1.a3], .blk b5 61 [.int .u8 0, .int .u8 0, .int .u8 0, .int .u8 0], .blk b8 3 [.int .i64 x7]] [] := by rw [hW]; exact H.drew
 clear hW
 refine PR_free (by rfl) (by rfl) (by rfl) (by exact wn0 rfl) (fun wS => (x_move (v := .int .i64 0) (by rfl))) ?_
 refine PR_free (by rfl) (by rfl) (by rfl) (by exact wn0 rfl) (fun wS => (x_move (v := .func (.func 114) #[] #[.pointer (some ⟨b8, 0, none⟩)]) (by rfl))) ?_
 refine PR_free (by rfl) (by rfl) (by rfl) (by exact wn0 rfl) (fun wS => (x_move (v := .int .i64 0) (by rfl))) ?_
 refine PR_free (by rfl) (by rfl) (by rfl) (by exact wn0 rfl) (fun wS => (x_indexArr ar61 sz5 (by rfl) (by rfl) (by decide) (by decide))) ?_
 refine PR_take (by rfl) (by rfl) (by rfl) (by exact wn0 rfl) (fun wS (H : Sep ok w wS [.blk b1 61 [.int .u8 a0.a0, .int .u8 a0.a1, .int .u8 a0.a2, .int .u8 a0.a3], .blk b3 61 [.int .u8 a1.a0, .int .u8 a1.a1, .int .u8 a1.a2, .int .u8 a1.a3], .blk b5 61 [.int .u8 0, .int .u8 0, .int .u8 0, .int .u8 0], .blk b8 3 [.int .i64 x7]] []) => (x_load (j := 0) (v := .int .u8 a0.a0) sc5 (by rfl) (H.cells (i := 0) (by rfl)) (by rfl))) ?_
 refine PR_free (by rfl) (by rfl) (by rfl) (by exact wn0 rfl) (fun wS => (x_move (v := .int .i64 0) (by rfl))) ?_
 refine PR_free (by rfl) (by rfl) (by rfl) (by exact wn0 rfl) (fun wS => (x_indexArr ar61 sz5 (by rfl) (by rfl) (by decide) (by decide))) ?_
 refine PR_take (by rfl) (by rfl) (by rfl) (by exact wn0 rfl) (fun wS (H : Sep ok w wS [.blk b1 61 [.int .u8 a0.a0, .int .u8 a0.a1, .int .u8 a0.a2, .int .u8 a0.a3], .blk b3 61 [.int .u8 a1.a0, .int .u8 a1.a1, .int .u8 a1.a2, .int .u8 a1.a3], .blk b5 61 [.int .u8 0, .int .u8 0, .int .u8 0, .int .u8 0], .blk b8 3 [.int .i64 x7]] []) => (x_load (j := 0) (v := .int .u8 a1.a0) sc5 (by rfl) (H.cells (i := 1) (by rfl)) (by rfl))) ?_
 obtain ⟨v13, hv12, hm⟩ := bind_some hm
 refine PR_tail (by rfl) (O_call (by exact wn0 rfl) (by rfl) (by rfl) (x_callL (by rfl) (args := [.int .u8 a0.a0, .int .u8 a1.a0, .pointer (some ⟨b8, 0, none⟩)]) (by rfl) (cf114 _ _)) (c114 (fun _ => True) K w11 a0.a0 a1.a0 x7 b8 (H.blkRd (i := 3) (by rfl)) v13 hv12) ?_)
 rintro e w14 ⟨rfl, H2⟩
 have H : Sep ok w w14 [.blk b1 61 [.int .u8 a0.a0, .int .u8 a0.a1, .int .u8 a0.a2, .int .u8 a0.a3], .blk b3 61 [.int .u8 a1.a0, .int .u8 a1.a1, .int .u8 a1.a2, .int .u8 a1.a3], .blk b5 61 [.int .u8 0, .int .u8 0, .int .u8 0, .int .u8 0], .blk b8 3 [.int .i64 x7]] [] := H.below H2.base
 clear H2
 refine ⟨_, rfl, ?_⟩
 show PR _ _ _ _ _ _ _ _
 refine PR_free (by rfl) (by rfl) (by rfl) (by exact wn0 rfl) (fun wS => (x_indexArr ar61 sz5 (by rfl) (by rfl) (by decide) (by decide))) ?_
 refine PR_tail (by rfl) (O_store (i := 2) (off := 0) (by exact wn0 rfl) (by rfl) (by rfl) H (by rfl) (vs := [.int .u8 v13]) (by rfl) sz5 (by rfl) (by rfl) (by rfl) (fun w15 (H : Sep ok w w15 [.blk b1 61 [.int .u8 a0.a0, .int .u8 a0.a1, .int .u8 a0.a2, .int .u8 a0.a3], .blk b3 61 [.int .u8 a1.a0, .int .u8 a1.a1, .int .u8 a1.a2, .int .u8 a1.a3], .blk b5 61 [.int .u8 v13, .int .u8 0, .int .u8 0, .int .u8 0], .blk b8 3 [.int .i64 x7]] []) => ?_))
 refine PR_nil ?_
 refine W_region ?_
 refine RL_pure (by exact wn0 rfl) (by rfl) (by rfl) (x_add (c := 1) (by rfl) (by rfl) (by decide)) ?_
 refine RL_pure (by exact wn0 rfl) (by rfl) (by rfl) (x_move (v := .int .i64 1) (by rfl)) ?_
 refine RL_nil ?_
 refine WU_succ ?_
 refine W_seq ?_
 refine W_region ?_
 refine RL_pure (by exact wn0 rfl) (by rfl) (by rfl) (x_lss (by rfl) (by rfl)) ?_
 refine RL_nil ?_
 refine W_seq ?_
 refine W_cond (t := true) (by first | rfl | decide) (fun _ => ?_) (fun hb => by cases hb)
 refine W_skip ?_
 refine W_seq ?_
 refine W_block ?_
 refine W_seq ?_
 refine W_region ?_
 refine RL_pure (by exact wn0 rfl) (by rfl) (by rfl) (x_move (v := .int .i64 1) (by rfl)) ?_
 refine RL_pure (by exact wn0 rfl) (by rfl) (by rfl) (x_assign (v := .int .i64 1) (by rfl)) ?_
 refine RL_nil ?_
 refine W_draw [.free 0, .free 1, .free 2, .free 3, .take 4, .free 5, .free 6, .take 7, .tail 8, .free 9, .tail 10] (fun wS => Sep ok w wS [.blk b1 61 [.int .u8 a0.a0, .int .u8 a0.a1, .int .u8 a0.a2, .int .u8 a0.a3], .blk b3 61 [.int .u8 a1.a0, .int .u8 a1.a1, .int .u8 a1.a2, .int .u8 a1.a3], .blk b5 61 [.int .u8 v13, .int .u8 0, .int .u8 0, .int .u8 0], .blk b8 3 [.int .i64 x7]] []) [8, 10] [0, 1, 2, 3, 5, 6, 9] mixed0 (by kernel_rfl) (by kernel_rfl) (by kernel_rfl) (by rfl) (by exact H.drew) ?_
 obtain ⟨w16, hW⟩ : ∃ W : World, W = { w15 with drawn := w15.drawn + 1 } := ⟨_, rfl⟩
 rw [← hW]
 have H : Sep ok w w16 [.blk b1 61 [.int .u8 a0.a0, .int .u8 a0.a1, .int .u8 a0.a2, .int .u8 a0.a3], .blk b3 61 [.int .u8 a1.a0, .int .u8 a1.a1, .int .u8 a1.a2, .int .u8 a1.a3], .blk b5 61 [.int .u8 v13, .int .u8 0, .int .u8 0, .int .u8 0], .blk b8 3 [.int .i64 x7]] [] := by rw [hW]; exact H.drew
 clear hW
 refine PR_free (by rfl) (by rfl) (by rfl) (by exact wn0 rfl) (fun wS => (x_move (v := .int .i64 1) (by rfl))) ?_
 refine PR_free (by rfl) (by rfl) (by rfl) (by exact wn0 rfl) (fun wS => (x_move (v := .func (.func 114) #[] #[.pointer (some ⟨b8, 0, none⟩)]) (by rfl))) ?_
 refine PR_free (by rfl) (by rfl) (by rfl) (by exact wn0 rfl) (fun wS => (x_move (v := .int .i64 1) (by rfl))) ?_
 refine PR_free (by rfl) (by rfl) (by rfl) (by exact wn0 rfl) (fun wS => (x_indexArr ar61 sz5 (by rfl) (by rfl) (by decide) (by decide))) ?_
 refine PR_take (by rfl) (by rfl) (by rfl) (by exact wn0 rfl) (fun wS (H : Sep ok w wS [.blk b1 61 [.int .u8 a0.a0, .int .u8 a0.a1, .int .u8 a0.a2, .int .u8 a0.a3], .blk b3 61 [.int .u8 a1.a0, .int .u8 a1.a1, .int .u8 a1.a2, .int .u8 a1.a3], .blk b5 61 [.int .u8 v13, .int .u8 0, .int .u8 0, .int .u8 0], .blk b8 3 [.int .i64 x7]] []) => (x_load (j := 1) (v := .int .u8 a0.a1) sc5 (by rfl) (H.cells (i := 0) (by rfl)) (by rfl))) ?_
 refine PR_free (by rfl) (by rfl) (by rfl) (by exact wn0 rfl) (fun wS => (x_move (v := .int .i64 1) (by rfl))) ?_
 refine PR_free (by rfl) (by rfl) (by rfl) (by exact wn0 rfl) (fun wS => (x_indexArr ar61 sz5 (by rfl) (by rfl) (by decide) (by decide))) ?_
 refine PR_take (by rfl) (by rfl) (by rfl) (by exact wn0 rfl) (fun wS (H : Sep ok w wS [.blk b1 61 [.int .u8 a0.a0, .int .u8 a0.a1, .int .u8 a0.a2, .int .u8 a0.a3], .blk b3 61 [.int .u8 a1.a0, .int .u8 a1.a1, .int .u8 a1.a2, .int .u8 a1.a3], .blk b5 61 [.int .u8 v13, .int .u8 0, .int .u8 0, .int .u8 0], .blk b8 3 [.int .i64 x7]] []) => (x_load (j := 1) (v := .int .u8 a1.a1) sc5 (by rfl) (H.cells (i := 1) (by rfl)) (by rfl))) ?_
 obtain ⟨v18, hv17, hm⟩ := bind_some hm
 refine PR_tail (by rfl) (O_call (by exact wn0 rfl) (by rfl) (by rfl) (x_callL (by rfl) (args := [.int .u8 a0.a1, .int .u8 a1.a1, .pointer (some ⟨b8, 0, none⟩)]) (by rfl) (cf114 _ _)) (c114 (fun _ => True) K w16 a0.a1 a1.a1 x7 b8 (H.blkRd (i := 3) (by rfl)) v18 hv17) ?_)
 rintro e w19 ⟨rfl, H2⟩
 have H : Sep ok w w19 [.blk b1 61 [.int .u8 a0.a0, .int .u8 a0.a1, .int .u8 a0.a2, .int .u8 a0.a3], .blk b3 61 [.int .u8 a1.a0, .int .u8 a1.a1, .int .u8 a1.a2, .int .u8 a1.a3], .blk b5 61 [.int .u8 v13, .int .u8 0, .int .u8 0, .int .u8 0], .blk b8 3 [.int .i64 x7]] [] := H.below H2.base
 clear H2
 refine ⟨_, rfl, ?_⟩
 show PR _ _ _ _ _ _ _ _
 refine PR_free (by rfl) (by rfl) (by rfl) (by exact wn0 rfl) (fun wS => (x_indexArr ar61 sz5 (by rfl) (by rfl) (by decide) (by decide))) ?_
 refine PR_tail (by rfl) (O_store (i := 2) (off := 1) (by exact wn0 rfl) (by rfl) (by rfl) H (by rfl) (vs := [.int .u8 v18]) (by rfl) sz5 (by rfl) (by rfl) (by rfl) (fun w20 (H : Sep ok w w20 [.blk b1 61 [.int .u8 a0.a0, .int .u8 a0.a1, .int .u8 a0.a2, .int .u8 a0.a3], .blk b3 61 [.int .u8 a1.a0, .int .u8 a1.a1, .int .u8 a1.a2, .int .u8 a1.a3], .blk b5 61 [.int .u8 v13, .int .u8 v18, .int .u8 0, .int .u8 0], .blk b8 3 [.int .i64 x7]] []) => ?_))
 refine PR_nil ?_
 refine W_region ?_
 refine RL_pure (by exact wn0 rfl) (by rfl) (by rfl) (x_add (c := 2) (by rfl) (by rfl) (by decide)) ?_
 refine RL_pure (by exact wn0 rfl) (by rfl) (by rfl) (x_move (v := .int .i64 2) (by rfl)) ?_
 refine RL_nil ?_
 refine WU_succ ?_
 refine W_seq ?_
 refine W_region ?_
 refine RL_pure (by exact wn0 rfl) (by rfl) (by rfl) (x_lss (by rfl) (by rfl)) ?_
 refine RL_nil ?_
 refine W_seq ?_
 refine W_cond (t := true) (by first | rfl | decide) (fun _ => ?_) (fun hb => by cases hb)
 refine W_skip ?_
 refine W_seq ?_
 refine W_block ?_
 refine W_seq ?_
 refine W_region ?_
 refine RL_pure (by exact wn0 rfl) (by rfl) (by rfl) (x_move (v := .int .i64 2) (by rfl)) ?_
 refine RL_pure (by exact wn0 rfl) (by rfl) (by rfl) (x_assign (v := .int .i64 2) (by rfl)) ?_
 refine RL_nil ?_
 refine W_draw [.free 0, .free 1, .free 2, .free 3, .take 4, .free 5, .free 6, .take 7, .tail 8, .free 9, .tail 10] (fun wS => Sep ok w wS [.blk b1 61 [.int .u8 a0.a0, .int .u8 a0.a1, .int .u8 a0.a2, .int .u8 a0.a3], .blk b3 61 [.int .u8 a1.a0, .int .u8 a1.a1, .int .u8 a1.a2, .int .u8 a1.a3], .blk b5 61 [.int .u8 v13, .int .u8 v18, .int .u8 0, .int .u8 0], .blk b8 3 [.int .i64 x7]] []) [8, 10] [0, 1, 2, 3, 5, 6, 9] mixed0 (by kernel_rfl) (by kernel_rfl) (by kernel_rfl) (by rfl) (by exact H.drew) ?_
 obtain ⟨w21, hW⟩ : ∃ W : World, W = { w20 with drawn := w20.drawn + 1 } := ⟨_, rfl⟩
 rw [← hW]
 have H : Sep ok w w21 [.blk b1 61 [.int .u8 a0.a0, .int .u8 a0.a1, .int .u8 a0.a2, .int .u8 a0.a3], .blk b3 61 [.int .u8 a1.a0, .int .u8 a1.a1, .int .u8 a1.a2, .int .u8 a1.a3], .blk b5 61 [.int .u8 v13, .int .u8 v18, .int .u8 0, .int .u8 0], .blk b8 3 [.int .i64 x7]] [] := by rw [hW]; exact H.drew
 clear hW
 refine PR_free (by rfl) (by rfl) (by rfl) (by exact wn0 rfl) (fun wS => (x_move (v := .int .i64 2) (by rfl))) ?_
 refine PR_free (by rfl) (by rfl) (by rfl) (by exact wn0 rfl) (fun wS => (x_move (v := .func (.func 114) #[] #[.pointer (some ⟨b8, 0, none⟩)]) (by rfl))) ?_
 refine PR_free (by rfl) (by rfl) (by rfl) (by exact wn0 rfl) (fun wS => (x_move (v := .int .i64 2) (by rfl))) ?_
 refine PR_free (by rfl) (by rfl) (by rfl) (by exact wn0 rfl) (fun wS => (x_indexArr ar61 sz5 (by rfl) (by rfl) (by decide) (by decide))) ?_
 refine PR_take (by rfl) (by rfl) (by rfl) (by exact wn0 rfl) (fun wS (H : Sep ok w wS [.blk b1 61 [.int .u8 a0.a0, .int .u8 a0.a1, .int .u8 a0.a2, .int .u8 a0.a3], .blk b3 61 [.int .u8 a1.a0, .int .u8 a1.a1, .int .u8 a1.a2, .int .u8 a1.a3], .blk b5 61 [.int .u8 v13, .int .u8 v18, .int .u8 0, .int .u8 0], .blk b8 3 [.int .i64 x7]] []) => (x_load (j := 2) (v := .int .u8 a0.a2) sc5 (by rfl) (H.cells (i := 0) (by rfl)) (by rfl))) ?_
 refine PR_free (by rfl) (by rfl) (by rfl) (by exact wn0 rfl) (fun wS => (x_move (v := .int .i64 2) (by rfl))) ?_
 refine PR_free (by rfl) (by rfl) (by rfl) (by exact wn0 rfl) (fun wS => (x_indexArr ar61 sz5 (by rfl) (by rfl) (by decide) (by decide))) ?_
 refine PR_take (by rfl) (by rfl) (by rfl) (by exact wn0 rfl) (fun wS (H : Sep ok w wS [.blk b1 61 [.int .u8 a0.a0, .int .u8 a0.a1, .int .u8 a0.a2, .int .u8 a0.a3], .blk b3 61 [.int .u8 a1.a0, .int .u8 a1.a1, .int .u8 a1.a2, .int .u8 a1.a3], .blk b5 61 [.int .u8 v13, .int .u8 v18, .int .u8 0, .int .u8 0], .blk b8 3 [.int .i64 x7]] []) => (x_load (j := 2) (v := .int .u8 a1.a2) sc5 (by rfl) (H.cells (i := 1) (by rfl)) (by rfl))) ?_
 obtain ⟨v23, hv22, hm⟩ := bind_some hm
 refine PR_tail (by rfl) (O_call (by exact wn0 rfl) (by rfl) (by rfl) (x_callL (by rfl) (args := [.int .u8 a0.a2, .int .u8 a1.a2, .pointer (some ⟨b8, 0, none⟩)]) (by rfl) (cf114 _ _)) (c114 (fun _ => True) K w21 a0.a2 a1.a2 x7 b8 (H.blkRd (i := 3) (by rfl)) v23 hv22) ?_)
 rintro e w24 ⟨rfl, H2⟩
 have H : Sep ok w w24 [.blk b1 61 [.int .u8 a0.a0, .int .u8 a0.a1, .int .u8 a0.a2, .int .u8 a0.a3], .blk b3 61 [.int .u8 a1.a0, .int .u8 a1.a1, .int .u8 a1.a2, .int .u8 a1.a3], .blk b5 61 [.int .u8 v13, .int .u8 v18, .int .u8 0, .int .u8 0], .blk b8 3 [.int .i64 x7]] [] := H.below H2.base
 clear H2
 refine ⟨_, rfl, ?_⟩
 show PR _ _ _ _ _ _ _ _
 refine PR_free (by rfl) (by rfl) (by rfl) (by exact wn0 rfl) (fun wS => (x_indexArr ar61 sz5 (by rfl) (by rfl) (by decide) (by decide))) ?_
 refine PR_tail (by rfl) (O_store (i := 2) (off := 2) (by exact wn0 rfl) (by rfl) (by rfl) H (by rfl) (vs := [.int .u8 v23]) (by rfl) sz5 (by rfl) (by rfl) (by rfl) (fun w25 (H : Sep ok w w25 [.blk b1 61 [.int .u8 a0.a0, .int .u8 a0.a1, .int .u8 a0.a2, .int .u8 a0.a3], .blk b3 61 [.int .u8 a1.a0, .int .u8 a1.a1, .int .u8 a1.a2, .int .u8 a1.a3], .blk b5 61 [.int .u8 v13, .int .u8 v18, .int .u8 v23, .int .u8 0], .blk b8 3 [.int .i64 x7]] []) => ?_))
 refine PR_nil ?_
 refine W_region ?_
 refine RL_pure (by exact wn0 rfl) (by rfl) (by rfl) (x_add (c := 3) (by rfl) (by rfl) (by decide)) ?_
 refine RL_pure (by exact wn0 rfl) (by rfl) (by rfl) (x_move (v := .int .i64 3) (by rfl)) ?_
 refine RL_nil ?_
 refine WU_succ ?_
 refine W_seq ?_
 refine W_region ?_
 refine RL_pure (by exact wn0 rfl) (by rfl) (by rfl) (x_lss (by rfl) (by rfl)) ?_
 refine RL_nil ?_
 refine W_seq ?_
 refine W_cond (t := false) (by first | rfl | decide) (fun hb => by cases hb) (fun _ => ?_)
 refine W_exit ?_
 refine W_seq ?_
 refine W_region ?_
 refine RL_pure (by exact wn0 rfl) (by rfl) (by rfl) (x_move (v := .func (.func 114) #[] #[.pointer (some ⟨b8, 0, none⟩)]) (by rfl)) ?_
 refine RL_pure (by exact wn0 rfl) (by rfl) (by rfl) (x_indexArr ar61 sz5 (by rfl) (by rfl) (by decide) (by decide)) ?_
 refine RL_pure (by exact wn0 rfl) (by rfl) (by rfl) (x_load (j := 3) (v := .int .u8 a1.a3) sc5 (by rfl) (H.cells (i := 1) (by rfl)) (by rfl)) ?_
 obtain ⟨v27, hv26, hm⟩ := bind_some hm
 refine RL_cons (O_call (by exact wn0 rfl) (by rfl) (by rfl) (x_callL (by rfl) (args := [.int .u8 255, .int .u8 a1.a3, .pointer (some ⟨b8, 0, none⟩)]) (by rfl) (cf114 _ _)) (c114 (fun _ => True) K w25 255 a1.a3 x7 b8 (H.blkRd (i := 3) (by rfl)) v27 hv26) ?_)
 rintro e w28 ⟨rfl, H2⟩
 have H : Sep ok w w28 [.blk b1 61 [.int .u8 a0.a0, .int .u8 a0.a1, .int .u8 a0.a2, .int .u8 a0.a3], .blk b3 61 [.int .u8 a1.a0, .int .u8 a1.a1, .int .u8 a1.a2, .int .u8 a1.a3], .blk b5 61 [.int .u8 v13, .int .u8 v18, .int .u8 v23, .int .u8 0], .blk b8 3 [.int .i64 x7]] [] := H.below H2.base
 clear H2
 refine ⟨_, rfl, ?_⟩
 show RL _ _ _ _ _ _ _
 refine RL_pure (by exact wn0 rfl) (by rfl) (by rfl) (x_indexArr ar61 sz5 (by rfl) (by rfl) (by decide) (by decide)) ?_
 refine RL_cons (O_store (i := 2) (off := 3) (by exact wn0 rfl) (by rfl) (by rfl) H (by rfl) (vs := [.int .u8 v27]) (by rfl) sz5 (by rfl) (by rfl) (by rfl) (fun w29 (H : Sep ok w w29 [.blk b1 61 [.int .u8 a0.a0, .int .u8 a0.a1, .int .u8 a0.a2, .int .u8 a0.a3], .blk b3 61 [.int .u8 a1.a0, .int .u8 a1.a1, .int .u8 a1.a2, .int .u8 a1.a3], .blk b5 61 [.int .u8 v13, .int .u8 v18, .int .u8 v23, .int .u8 v27], .blk b8 3 [.int .i64 x7]] []) => ?_))
 refine RL_nil ?_
 refine W_seq ?_
 refine W_region ?_
 refine RL_pure (by exact wn0 rfl) (by rfl) (by rfl) (x_loadA (j := 0) (vs := [.int .u8 v13, .int .u8 v18, .int .u8 v23, .int .u8 v27]) ag61 (by rfl) (H.cells (i := 2) (by rfl)) (by rfl) (by rfl)) ?_
 refine RL_cons (O_store (i := 2) (off := 0) (by exact wn0 rfl) (by rfl) (by rfl) H (by rfl) (vs := [.int .u8 v13, .int .u8 v18, .int .u8 v23, .int .u8 v27]) (by rfl) sz61 (by rfl) (by rfl) (by rfl) (fun w30 (H : Sep ok w w30 [.blk b1 61 [.int .u8 a0.a0, .int .u8 a0.a1, .int .u8 a0.a2, .int .u8 a0.a3], .blk b3 61 [.int .u8 a1.a0, .int .u8 a1.a1, .int .u8 a1.a2, .int .u8 a1.a3], .blk b5 61 [.int .u8 v13, .int .u8 v18, .int .u8 v23, .int .u8 v27], .blk b8 3 [.int .i64 x7]] []) => ?_))
 refine RL_nil ?_
 refine W_ret ?_
 obtain rfl := Option.some.inj hm
 exact ⟨[.agg #[.int .u8 v13, .int .u8 v18, .int .u8 v23, .int .u8 v27]], (.cellA (by rfl) ag61 (H.cells (i := 2) (by rfl)) (by rfl) rfl), rfl, H.none_⟩
end Go.Proofs.YtobkigllalbkiaaV.M

/- A plain Lean function that answers as the Go function does (none: not told), and the proof that a call answers so. Written by program. -/
set_option linter.unusedVariables false
namespace Go.Proofs.YtobkigllalbkiaaV.M
open Go.RowKit Go.Proofs.YtobkigllalbkiaaV
def m27_j1 (K : Nat) (v24 : S_open × Int × Int) (l_row29_1 : (List (Ar4 Int))) : Option (S_Frame × Int) :=
 some ((⟨v24.1.Frame.W, v24.1.Frame.H, l_row29_1, v24.1.Frame.Depth, v24.1.Frame.Item, v24.1.Frame.Tri⟩ : S_Frame), 0)
/-- diorama/frame.Lay -/
def m27 (K : Nat) (a0 : S_Frame) (a1 : Int) (a2 : Int) (a3 : Int) (a4 : (Ar4 Int)) : Option (S_Frame × Int) :=
 ((m69 K a0 a1 a2).bind fun v24 => (bif (v24.2.2 != 0) then some ((⟨0, 0, [], [], [], []⟩ : S_Frame), v24.2.2) else ((m70 K a3).bind fun v55 => (bif (!v55) then some ((⟨0, 0, [], [], [], []⟩ : S_Frame), 2) else ((m71 K v24.1 v24.2.1).bind fun v63 => ((bif v63 then some true else (idx v24.1.Frame.Depth v24.2.1 fun el66 => some (decide (el66 < a3)))).bind fun b65 => (bif b65 then (idx v24.1.Frame.Color v24.2.1 fun el76 => ((m72 K a4 el76).bind fun v84 => (idx v24.1.Frame.Color v24.2.1 fun el86 => (lete (v24.1.Frame.Color.set ((v24.2.1).toNat) v84) fun l95 => (m27_j1 K v24 l95))))) else (m27_j1 K v24 v24.1.Frame.Color))))))))
set_option maxRecDepth 100000 in
set_option maxHeartbeats 4000000 in
theorem c27 (ok : Nat → Prop) (K : Nat) (w : World) (a0 : S_Frame) (A1 : Option Addr) (cp2 : Nat) (A5 : Option Addr) (cp6 : Nat) (A9 : Option Addr) (cp10 : Nat) (A13 : Option Addr) (cp14 : Nat) (a1 : Int) (a2 : Int) (a3 : Int) (a4 : (Ar4 Int)) (hR3 : Rd k_Ar4_Int w ok A1 cp2 a0.Color) (hR7 : Rd kInt w ok A5 cp6 a0.Depth) (hR11 : Rd kInt w ok A9 cp10 a0.Item) (hR15 : Rd kInt w ok A13 cp14 a0.Tri) (res : S_Frame × Int) (hm : m27 K a0 a1 a2 a3 a4 = some res) :
  Calls Try.prog 27 #[.agg #[.int .i64 a0.W, .int .i64 a0.H, .slice A1 a0.Color.length cp2, .slice A5 a0.Depth.length cp6, .slice A9 a0.Item.length cp10, .slice A13 a0.Tri.length cp14], .int .i64 a1, .int .i64 a2, .int .i64 a3, .agg #[.int .u8 a4.a0, .int .u8 a4.a1, .int .u8 a4.a2, .int .u8 a4.a3]] w (fun e w' => ∃ (A0_ : Option Addr) (c0_ : Nat), ∃ (A1_ : Option Addr) (c1_ : Nat), ∃ (A2_ : Option Addr) (c2_ : Nat), ∃ (A3_ : Option Addr) (c3_ : Nat), e = .returned (tup [.agg #[.int .i64 res.1.W, .int .i64 res.1.H, .slice A0_ res.1.Color.length c0_, .slice A1_ res.1.Depth.length c1_, .slice A2_ res.1.Item.length c2_, .slice A3_ res.1.Tri.length c3_], .int .i64 res.2]) ∧ Sep ok w w' [] [RE.rd k_Ar4_Int A0_ c0_ res.1.Color, RE.rd kInt A1_ c1_ res.1.Depth, RE.rd kInt A2_ c2_ res.1.Item, RE.rd kInt A3_ c3_ res.1.Tri]) := by
 refine calls_W (args := [.agg #[.int .i64 a0.W, .int .i64 a0.H, .slice A1 a0.Color.length cp2, .slice A5 a0.Depth.length cp6, .slice A9 a0.Item.length cp10, .slice A13 a0.Tri.length cp14], .int .i64 a1, .int .i64 a2, .int .i64 a3, .agg #[.int .u8 a4.a0, .int .u8 a4.a1, .int .u8 a4.a2, .int .u8 a4.a3]]) Try.func27 rfl Try.ntmps27 Try.results27 rfl fun r hr => ?_
 obtain ⟨r1, rfl⟩ := regen (r := r) [(0, .agg #[.int .i64 a0.W, .int .i64 a0.H, .slice A1 a0.Color.length cp2, .slice A5 a0.Depth.length cp6, .slice A9 a0.Item.length cp10, .slice A13 a0.Tri.length cp14]), (1, .int .i64 a1), (2, .int .i64 a2), (3, .int .i64 a3), (4, .agg #[.int .u8 a4.a0, .int .u8 a4.a1, .int .u8 a4.a2, .int .u8 a4.a3])] ⟨hr 0 _ rfl, hr 1 _ rfl, hr 2 _ rfl, hr 3 _ rfl, hr 4 _ rfl, trivial⟩
 have H : Sep ok w w [] [RE.rd k_Ar4_Int A1 cp2 a0.Color, RE.rd kInt A5 cp6 a0.Depth, RE.rd kInt A9 cp10 a0.Item, RE.rd kInt A13 cp14 a0.Tri] := Sep.arg (Sep.arg (Sep.arg (Sep.arg (Sep.start ok w) (re := RE.rd k_Ar4_Int A1 cp2 a0.Color) rfl rfl hR3) (re := RE.rd kInt A5 cp6 a0.Depth) rfl rfl hR7) (re := RE.rd kInt A9 cp10 a0.Item) rfl rfl hR11) (re := RE.rd kInt A13 cp14 a0.Tri) rfl rfl hR15
 unfold m27 at hm
 refine W_seq ?_
 refine W_region ?_
 refine RL_cons (O_box (by exact wn0 rfl) (by rfl) (by rfl) (by rfl) H (fun w18 b17 (H : Sep ok w w18 [.blk b17 25 [.int .i64 a0.W, .int .i64 a0.H, .slice A1 a0.Color.length cp2, .slice A5 a0.Depth.length cp6, .slice A9 a0.Item.length cp10, .slice A13 a0.Tri.length cp14]] [RE.rd k_Ar4_Int A1 cp2 a0.Color, RE.rd kInt A5 cp6 a0.Depth, RE.rd kInt A9 cp10 a0.Item, RE.rd kInt A13 cp14 a0.Tri]) => ?_))
 refine RL_cons (O_box (by exact wn0 rfl) (by rfl) (by rfl) (by rfl) H (fun w20 b19 (H : Sep ok w w20 [.blk b17 25 [.int .i64 a0.W, .int .i64 a0.H, .slice A1 a0.Color.length cp2, .slice A5 a0.Depth.length cp6, .slice A9 a0.Item.length cp10, .slice A13 a0.Tri.length cp14], .blk b19 61 [.int .u8 a4.a0, .int .u8 a4.a1, .int .u8 a4.a2, .int .u8 a4.a3]] [RE.rd k_Ar4_Int A1 cp2 a0.Color, RE.rd kInt A5 cp6 a0.Depth, RE.rd kInt A9 cp10 a0.Item, RE.rd kInt A13 cp14 a0.Tri]) => ?_))
 refine RL_cons (O_alloc (by exact wn0 rfl) (by rfl) ze25 (by rfl) H (fun w22 b21 (H : Sep ok w w22 [.blk b17 25 [.int .i64 a0.W, .int .i64 a0.H, .slice A1 a0.Color.length cp2, .slice A5 a0.Depth.length cp6, .slice A9 a0.Item.length cp10, .slice A13 a0.Tri.length cp14], .blk b19 61 [.int .u8 a4.a0, .int .u8 a4.a1, .int .u8 a4.a2, .int .u8 a4.a3], .blk b21 25 [.int .i64 0, .int .i64 0, .slice none 0 0, .slice none 0 0, .slice none 0 0, .slice none 0 0]] [RE.rd k_Ar4_Int A1 cp2 a0.Color, RE.rd kInt A5 cp6 a0.Depth, RE.rd kInt A9 cp10 a0.Item, RE.rd kInt A13 cp14 a0.Tri]) => ?_))
 refine RL_pure (by exact wn0 rfl) (by rfl) (by rfl) (x_assign (v := .int .i64 0) (by rfl)) ?_
 refine RL_nil ?_
 refine W_seq ?_
 refine W_region ?_
 refine RL_pure (by exact wn0 rfl) (by rfl) (by rfl) (x_loadA (j := 0) (vs := [.int .i64 a0.W, .int .i64 a0.H, .slice A1 a0.Color.length cp2, .slice A5 a0.Depth.length cp6, .slice A9 a0.Item.length cp10, .slice A13 a0.Tri.length cp14]) ag25 (by rfl) (H.cells (i := 0) (by rfl)) (by rfl) (by rfl)) ?_
 refine RL_pure (by exact wn0 rfl) (by rfl) (by rfl) (x_move (v := .int .i64 a1) (by rfl)) ?_
 refine RL_pure (by exact wn0 rfl) (by rfl) (by rfl) (x_move (v := .int .i64 a2) (by rfl)) ?_
 obtain ⟨v24, hv23, hm⟩ := bind_some hm
 refine RL_cons (O_call (by exact wn0 rfl) (by rfl) (by rfl) (x_callL (by rfl) (args := [.agg #[.int .i64 a0.W, .int .i64 a0.H, .slice A1 a0.Color.length cp2, .slice A5 a0.Depth.length cp6, .slice A9 a0.Item.length cp10, .slice A13 a0.Tri.length cp14], .int .i64 a1, .int .i64 a2]) (by rfl) (cf69 _ _)) (c69 (okS ok w [.blk b17 25 [.int .i64 a0.W, .int .i64 a0.H, .slice A1 a0.Color.length cp2, .slice A5 a0.Depth.length cp6, .slice A9 a0.Item.length cp10, .slice A13 a0.Tri.length cp14], .blk b19 61 [.int .u8 a4.a0, .int .u8 a4.a1, .int .u8 a4.a2, .int .u8 a4.a3], .blk b21 25 [.int .i64 0, .int .i64 0, .slice none 0 0, .slice none 0 0, .slice none 0 0, .slice none 0 0]]) K w22 a0 A1 cp2 A5 cp6 A9 cp10 A13 cp14 a1 a2 (H.rd (i := 0) (by rfl)) (H.rd (i := 1) (by rfl)) (H.rd (i := 2) (by rfl)) (H.rd (i := 3) (by rfl)) v24 hv23) ?_)
 rintro e w25 ⟨A26, cp27, cs28, A31, cp32, cs33, A36, cp37, cs38, A41, cp42, cs43, rfl, H2⟩
 have H : Sep ok w w25 [.blk b17 25 [.int .i64 a0.W, .int .i64 a0.H, .slice A1 a0.Color.length cp2, .slice A5 a0.Depth.length cp6, .slice A9 a0.Item.length cp10, .slice A13 a0.Tri.length cp14], .blk b19 61 [.int .u8 a4.a0, .int .u8 a4.a1, .int .u8 a4.a2, .int .u8 a4.a3], .blk b21 25 [.int .i64 0, .int .i64 0, .slice none 0 0, .slice none 0 0, .slice none 0 0, .slice none 0 0], .row (.slice A26 v24.1.Frame.Color.length cp27) 61 k_Ar4_Int.sz v24.1.Frame.Color.length cs28, .row (.slice A31 v24.1.Frame.Depth.length cp32) 3 kInt.sz v24.1.Frame.Depth.length cs33, .row (.slice A36 v24.1.Frame.Item.length cp37) 3 kInt.sz v24.1.Frame.Item.length cs38, .row (.slice A41 v24.1.Frame.Tri.length cp42) 3 kInt.sz v24.1.Frame.Tri.length cs43] [RE.rd k_Ar4_Int A1 cp2 a0.Color, RE.rd kInt A5 cp6 a0.Depth, RE.rd kInt A9 cp10 a0.Item, RE.rd kInt A13 cp14 a0.Tri, RE.chunks k_Ar4_Int cs28 v24.1.Frame.Color, RE.chunks kInt cs33 v24.1.Frame.Depth, RE.chunks kInt cs38 v24.1.Frame.Item, RE.chunks kInt cs43 v24.1.Frame.Tri] := H.call H2
 clear H2
 refine ⟨_, rfl, ?_⟩
 show RL _ _ _ _ _ _ _
 refine RL_pure (by exact wn0 rfl) (by rfl) (by rfl) (x_move (v := tup [.agg #[.int .i64 v24.1.Frame.W, .int .i64 v24.1.Frame.H, .slice A26 v24.1.Frame.Color.length cp27, .slice A31 v24.1.Frame.Depth.length cp32, .slice A36 v24.1.Frame.Item.length cp37, .slice A41 v24.1.Frame.Tri.length cp42], .int .i64 v24.2.1, .int .i64 v24.2.2]) (by rfl)) ?_
 refine RL_pure (by exact wn0 rfl) (by rfl) (by rfl) (x_extract (v := .agg #[.int .i64 v24.1.Frame.W, .int .i64 v24.1.Frame.H, .slice A26 v24.1.Frame.Color.length cp27, .slice A31 v24.1.Frame.Depth.length cp32, .slice A36 v24.1.Frame.Item.length cp37, .slice A41 v24.1.Frame.Tri.length cp42]) (by rfl) (by rfl)) ?_
 refine RL_pure (by exact wn0 rfl) (by rfl) (by rfl) (x_extract (v := .int .i64 v24.2.1) (by rfl) (by rfl)) ?_
 refine RL_pure (by exact wn0 rfl) (by rfl) (by rfl) (x_extract (v := .int .i64 v24.2.2) (by rfl) (by rfl)) ?_
 refine RL_cons (O_alloc (by exact wn0 rfl) (by rfl) ze121 (by rfl) H (fun w47 b46 (H : Sep ok w w47 [.blk b17 25 [.int .i64 a0.W, .int .i64 a0.H, .slice A1 a0.Color.length cp2, .slice A5 a0.Depth.length cp6, .slice A9 a0.Item.length cp10, .slice A13 a0.Tri.length cp14], .blk b19 61 [.int .u8 a4.a0, .int .u8 a4.a1, .int .u8 a4.a2, .int .u8 a4.a3], .blk b21 25 [.int .i64 0, .int .i64 0, .slice none 0 0, .slice none 0 0, .slice none 0 0, .slice none 0 0], .row (.slice A26 v24.1.Frame.Color.length cp27) 61 k_Ar4_Int.sz v24.1.Frame.Color.length cs28, .row (.slice A31 v24.1.Frame.Depth.length cp32) 3 kInt.sz v24.1.Frame.Depth.length cs33, .row (.slice A36 v24.1.Frame.Item.length cp37) 3 kInt.sz v24.1.Frame.Item.length cs38, .row (.slice A41 v24.1.Frame.Tri.length cp42) 3 kInt.sz v24.1.Frame.Tri.length cs43, .blk b46 121 [.int .i64 0, .int .i64 0, .slice none 0 0, .slice none 0 0, .slice none 0 0, .slice none 0 0]] [RE.rd k_Ar4_Int A1 cp2 a0.Color, RE.rd kInt A5 cp6 a0.Depth, RE.rd kInt A9 cp10 a0.Item, RE.rd kInt A13 cp14 a0.Tri, RE.chunks k_Ar4_Int cs28 v24.1.Frame.Color, RE.chunks kInt cs33 v24.1.Frame.Depth, RE.chunks kInt cs38 v24.1.Frame.Item, RE.chunks kInt cs43 v24.1.Frame.Tri]) => ?_))
 refine RL_cons (O_store (i := 7) (off := 0) (by exact wn0 rfl) (by rfl) (by rfl) H (by rfl) (vs := [.int .i64 v24.1.Frame.W, .int .i64 v24.1.Frame.H, .slice A26 v24.1.Frame.Color.length cp27, .slice A31 v24.1.Frame.Depth.length cp32, .slice A36 v24.1.Frame.Item.length cp37, .slice A41 v24.1.Frame.Tri.length cp42]) (by rfl) sz121 (by rfl) (by rfl) (by rfl) (fun w48 (H : Sep ok w w48 [.blk b17 25 [.int .i64 a0.W, .int .i64 a0.H, .slice A1 a0.Color.length cp2, .slice A5 a0.Depth.length cp6, .slice A9 a0.Item.length cp10, .slice A13 a0.Tri.length cp14], .blk b19 61 [.int .u8 a4.a0, .int .u8 a4.a1, .int .u8 a4.a2, .int .u8 a4.a3], .blk b21 25 [.int .i64 0, .int .i64 0, .slice none 0 0, .slice none 0 0, .slice none 0 0, .slice none 0 0], .row (.slice A26 v24.1.Frame.Color.length cp27) 61 k_Ar4_Int.sz v24.1.Frame.Color.length cs28, .row (.slice A31 v24.1.Frame.Depth.length cp32) 3 kInt.sz v24.1.Frame.Depth.length cs33, .row (.slice A36 v24.1.Frame.Item.length cp37) 3 kInt.sz v24.1.Frame.Item.length cs38, .row (.slice A41 v24.1.Frame.Tri.length cp42) 3 kInt.sz v24.1.Frame.Tri.length cs43, .blk b46 121 [.int .i64 v24.1.Frame.W, .int .i64 v24.1.Frame.H, .slice A26 v24.1.Frame.Color.length cp27, .slice A31 v24.1.Frame.Depth.length cp32, .slice A36 v24.1.Frame.Item.length cp37, .slice A41 v24.1.Frame.Tri.length cp42]] [RE.rd k_Ar4_Int A1 cp2 a0.Color, RE.rd kInt A5 cp6 a0.Depth, RE.rd kInt A9 cp10 a0.Item, RE.rd kInt A13 cp14 a0.Tri, RE.chunks k_Ar4_Int cs28 v24.1.Frame.Color, RE.chunks kInt cs33 v24.1.Frame.Depth, RE.chunks kInt cs38 v24.1.Frame.Item, RE.chunks kInt cs43 v24.1.Frame.Tri]) => ?_))
 refine RL_pure (by exact wn0 rfl) (by rfl) (by rfl) (x_assign (v := .int .i64 v24.2.1) (by rfl)) ?_
 refine RL_pure (by exact wn0 rfl) (by rfl) (by rfl) (x_assign (v := .int .i64 v24.2.2) (by rfl)) ?_
 refine RL_nil ?_
 refine W_seq ?_
 refine W_seq ?_
 refine W_region ?_
 refine RL_pure (by exact wn0 rfl) (by rfl) (by rfl) (x_move (v := .int .i64 v24.2.2) (by rfl)) ?_
 refine RL_pure (by exact wn0 rfl) (by rfl) (by rfl) (x_neq (by rfl) (by rfl)) ?_
 refine RL_nil ?_
 refine W_cond (by rfl) (fun hb => ?_) (fun hb => ?_)
 ·have hm := cond_t hb hm
  refine W_seq ?_
  refine W_region ?_
  refine RL_pure (by exact wn0 rfl) (by rfl) (by rfl) (x_build (vs := []) (cs := [.int .i64 0, .int .i64 0, .slice none 0 0, .slice none 0 0, .slice none 0 0, .slice none 0 0]) (by rfl) (by kernel_rfl)) ?_
  refine RL_pure (by exact wn0 rfl) (by rfl) (by rfl) (x_move (v := .int .i64 v24.2.2) (by rfl)) ?_
  refine RL_cons (O_store (i := 2) (off := 0) (by exact wn0 rfl) (by rfl) (by rfl) H (by rfl) (vs := [.int .i64 0, .int .i64 0, .slice none 0 0, .slice none 0 0, .slice none 0 0, .slice none 0 0]) (by rfl) sz25 (by rfl) (by rfl) (by rfl) (fun w49 (H : Sep ok w w49 [.blk b17 25 [.int .i64 a0.W, .int .i64 a0.H, .slice A1 a0.Color.length cp2, .slice A5 a0.Depth.length cp6, .slice A9 a0.Item.length cp10, .slice A13 a0.Tri.length cp14], .blk b19 61 [.int .u8 a4.a0, .int .u8 a4.a1, .int .u8 a4.a2, .int .u8 a4.a3], .blk b21 25 [.int .i64 0, .int .i64 0, .slice none 0 0, .slice none 0 0, .slice none 0 0, .slice none 0 0], .row (.slice A26 v24.1.Frame.Color.length cp27) 61 k_Ar4_Int.sz v24.1.Frame.Color.length cs28, .row (.slice A31 v24.1.Frame.Depth.length cp32) 3 kInt.sz v24.1.Frame.Depth.length cs33, .row (.slice A36 v24.1.Frame.Item.length cp37) 3 kInt.sz v24.1.Frame.Item.length cs38, .row (.slice A41 v24.1.Frame.Tri.length cp42) 3 kInt.sz v24.1.Frame.Tri.length cs43, .blk b46 121 [.int .i64 v24.1.Frame.W, .int .i64 v24.1.Frame.H, .slice A26 v24.1.Frame.Color.length cp27, .slice A31 v24.1.Frame.Depth.length cp32, .slice A36 v24.1.Frame.Item.length cp37, .slice A41 v24.1.Frame.Tri.length cp42]] [RE.rd k_Ar4_Int A1 cp2 a0.Color, RE.rd kInt A5 cp6 a0.Depth, RE.rd kInt A9 cp10 a0.Item, RE.rd kInt A13 cp14 a0.Tri, RE.chunks k_Ar4_Int cs28 v24.1.Frame.Color, RE.chunks kInt cs33 v24.1.Frame.Depth, RE.chunks kInt cs38 v24.1.Frame.Item, RE.chunks kInt cs43 v24.1.Frame.Tri]) => ?_))
  refine RL_pure (by exact wn0 rfl) (by rfl) (by rfl) (x_assign (v := .int .i64 v24.2.2) (by rfl)) ?_
  refine RL_nil ?_
  refine W_ret ?_
  have H : Sep ok w w49 [.blk b17 25 [.int .i64 a0.W, .int .i64 a0.H, .slice A1 a0.Color.length cp2, .slice A5 a0.Depth.length cp6, .slice A9 a0.Item.length cp10, .slice A13 a0.Tri.length cp14], .blk b19 61 [.int .u8 a4.a0, .int .u8 a4.a1, .int .u8 a4.a2, .int .u8 a4.a3], .blk b21 25 [.int .i64 0, .int .i64 0, .slice none 0 0, .slice none 0 0, .slice none 0 0, .slice none 0 0], .row (.slice A26 v24.1.Frame.Color.length cp27) 61 k_Ar4_Int.sz v24.1.Frame.Color.length cs28, .row (.slice A31 v24.1.Frame.Depth.length cp32) 3 kInt.sz v24.1.Frame.Depth.length cs33, .row (.slice A36 v24.1.Frame.Item.length cp37) 3 kInt.sz v24.1.Frame.Item.length cs38, .row (.slice A41 v24.1.Frame.Tri.length cp42) 3 kInt.sz v24.1.Frame.Tri.length cs43, .blk b46 121 [.int .i64 v24.1.Frame.W, .int .i64 v24.1.Frame.H, .slice A26 v24.1.Frame.Color.length cp27, .slice A31 v24.1.Frame.Depth.length cp32, .slice A36 v24.1.Frame.Item.length cp37, .slice A41 v24.1.Frame.Tri.length cp42]] [RE.rd k_Ar4_Int A1 cp2 a0.Color, RE.rd kInt A5 cp6 a0.Depth, RE.rd kInt A9 cp10 a0.Item, RE.rd kInt A13 cp14 a0.Tri, RE.chunks k_Ar4_Int cs28 v24.1.Frame.Color, RE.chunks kInt cs33 v24.1.Frame.Depth, RE.chunks kInt cs38 v24.1.Frame.Item, RE.chunks kInt cs43 v24.1.Frame.Tri, RE.rd k_Ar4_Int none 0 ([])] := Sep.also H (re := RE.rd k_Ar4_Int none 0 ([])) (Rd.nil (by decide))
  have H : Sep ok w w49 [.blk b17 25 [.int .i64 a0.W, .int .i64 a0.H, .slice A1 a0.Color.length cp2, .slice A5 a0.Depth.length cp6, .slice A9 a0.Item.length cp10, .slice A13 a0.Tri.length cp14], .blk b19 61 [.int .u8 a4.a0, .int .u8 a4.a1, .int .u8 a4.a2, .int .u8 a4.a3], .blk b21 25 [.int .i64 0, .int .i64 0, .slice none 0 0, .slice none 0 0, .slice none 0 0, .slice none 0 0], .row (.slice A26 v24.1.Frame.Color.length cp27) 61 k_Ar4_Int.sz v24.1.Frame.Color.length cs28, .row (.slice A31 v24.1.Frame.Depth.length cp32) 3 kInt.sz v24.1.Frame.Depth.length cs33, .row (.slice A36 v24.1.Frame.Item.length cp37) 3 kInt.sz v24.1.Frame.Item.length cs38, .row (.slice A41 v24.1.Frame.Tri.length cp42) 3 kInt.sz v24.1.Frame.Tri.length cs43, .blk b46 121 [.int .i64 v24.1.Frame.W, .int .i64 v24.1.Frame.H, .slice A26 v24.1.Frame.Color.length cp27, .slice A31 v24.1.Frame.Depth.length cp32, .slice A36 v24.1.Frame.Item.length cp37, .slice A41 v24.1.Frame.Tri.length cp42]] [RE.rd k_Ar4_Int A1 cp2 a0.Color, RE.rd kInt A5 cp6 a0.Depth, RE.rd kInt A9 cp10 a0.Item, RE.rd kInt A13 cp14 a0.Tri, RE.chunks k_Ar4_Int cs28 v24.1.Frame.Color, RE.chunks kInt cs33 v24.1.Frame.Depth, RE.chunks kInt cs38 v24.1.Frame.Item, RE.chunks kInt cs43 v24.1.Frame.Tri, RE.rd k_Ar4_Int none 0 ([]), RE.rd kInt none 0 ([])] := Sep.also H (re := RE.rd kInt none 0 ([])) (Rd.nil (by decide))
  have H : Sep ok w w49 [.blk b17 25 [.int .i64 a0.W, .int .i64 a0.H, .slice A1 a0.Color.length cp2, .slice A5 a0.Depth.length cp6, .slice A9 a0.Item.length cp10, .slice A13 a0.Tri.length cp14], .blk b19 61 [.int .u8 a4.a0, .int .u8 a4.a1, .int .u8 a4.a2, .int .u8 a4.a3], .blk b21 25 [.int .i64 0, .int .i64 0, .slice none 0 0, .slice none 0 0, .slice none 0 0, .slice none 0 0], .row (.slice A26 v24.1.Frame.Color.length cp27) 61 k_Ar4_Int.sz v24.1.Frame.Color.length cs28, .row (.slice A31 v24.1.Frame.Depth.length cp32) 3 kInt.sz v24.1.Frame.Depth.length cs33, .row (.slice A36 v24.1.Frame.Item.length cp37) 3 kInt.sz v24.1.Frame.Item.length cs38, .row (.slice A41 v24.1.Frame.Tri.length cp42) 3 kInt.sz v24.1.Frame.Tri.length cs43, .blk b46 121 [.int .i64 v24.1.Frame.W, .int .i64 v24.1.Frame.H, .slice A26 v24.1.Frame.Color.length cp27, .slice A31 v24.1.Frame.Depth.length cp32, .slice A36 v24.1.Frame.Item.length cp37, .slice A41 v24.1.Frame.Tri.length cp42]] [RE.rd k_Ar4_Int A1 cp2 a0.Color, RE.rd kInt A5 cp6 a0.Depth, RE.rd kInt A9 cp10 a0.Item, RE.rd kInt A13 cp14 a0.Tri, RE.chunks k_Ar4_Int cs28 v24.1.Frame.Color, RE.chunks kInt cs33 v24.1.Frame.Depth, RE.chunks kInt cs38 v24.1.Frame.Item, RE.chunks kInt cs43 v24.1.Frame.Tri, RE.rd k_Ar4_Int none 0 ([]), RE.rd kInt none 0 ([]), RE.rd kInt none 0 ([])] := Sep.also H (re := RE.rd kInt none 0 ([])) (Rd.nil (by decide))
  have H : Sep ok w w49 [.blk b17 25 [.int .i64 a0.W, .int .i64 a0.H, .slice A1 a0.Color.length cp2, .slice A5 a0.Depth.length cp6, .slice A9 a0.Item.length cp10, .slice A13 a0.Tri.length cp14], .blk b19 61 [.int .u8 a4.a0, .int .u8 a4.a1, .int .u8 a4.a2, .int .u8 a4.a3], .blk b21 25 [.int .i64 0, .int .i64 0, .slice none 0 0, .slice none 0 0, .slice none 0 0, .slice none 0 0], .row (.slice A26 v24.1.Frame.Color.length cp27) 61 k_Ar4_Int.sz v24.1.Frame.Color.length cs28, .row (.slice A31 v24.1.Frame.Depth.length cp32) 3 kInt.sz v24.1.Frame.Depth.length cs33, .row (.slice A36 v24.1.Frame.Item.length cp37) 3 kInt.sz v24.1.Frame.Item.length cs38, .row (.slice A41 v24.1.Frame.Tri.length cp42) 3 kInt.sz v24.1.Frame.Tri.length cs43, .blk b46 121 [.int .i64 v24.1.Frame.W, .int .i64 v24.1.Frame.H, .slice A26 v24.1.Frame.Color.length cp27, .slice A31 v24.1.Frame.Depth.length cp32, .slice A36 v24.1.Frame.Item.length cp37, .slice A41 v24.1.Frame.Tri.length cp42]] [RE.rd k_Ar4_Int A1 cp2 a0.Color, RE.rd kInt A5 cp6 a0.Depth, RE.rd kInt A9 cp10 a0.Item, RE.rd kInt A13 cp14 a0.Tri, RE.chunks k_Ar4_Int cs28 v24.1.Frame.Color, RE.chunks kInt cs33 v24.1.Frame.Depth, RE.chunks kInt cs38 v24.1.Frame.Item, RE.chunks kInt cs43 v24.1.Frame.Tri, RE.rd k_Ar4_Int none 0 ([]), RE.rd kInt none 0 ([]), RE.rd kInt none 0 ([]), RE.rd kInt none 0 ([])] := Sep.also H (re := RE.rd kInt none 0 ([])) (Rd.nil (by decide))
  obtain rfl := Option.some.inj hm
  exact ⟨[.agg #[.int .i64 0, .int .i64 0, .slice none 0 0, .slice none 0 0, .slice none 0 0, .slice none 0 0], .int .i64 v24.2.2], (.cellA (by rfl) ag25 (H.cells (i := 2) (by rfl)) (by rfl) (.tmp (by rfl) rfl)), none, 0, none, 0, none, 0, none, 0, rfl, (H.forgetAll).pick [8, 9, 10, 11]⟩
 ·have hm := cond_f hb hm
  refine W_skip ?_
  refine W_seq ?_
  refine W_seq ?_
  refine W_region ?_
  refine RL_pure (by exact wn0 rfl) (by rfl) (by rfl) (x_move (v := .int .i64 a3) (by rfl)) ?_
  obtain ⟨v55, hv54, hm⟩ := bind_some hm
  refine RL_cons (O_call (by exact wn0 rfl) (by rfl) (by rfl) (x_callL (by rfl) (args := [.int .i64 a3]) (by rfl) (cf70 _ _)) (c70 (fun _ => True) K w48 a3  v55 hv54) ?_)
  rintro e w56 ⟨rfl, H2⟩
  have H : Sep ok w w56 [.blk b17 25 [.int .i64 a0.W, .int .i64 a0.H, .slice A1 a0.Color.length cp2, .slice A5 a0.Depth.length cp6, .slice A9 a0.Item.length cp10, .slice A13 a0.Tri.length cp14], .blk b19 61 [.int .u8 a4.a0, .int .u8 a4.a1, .int .u8 a4.a2, .int .u8 a4.a3], .blk b21 25 [.int .i64 0, .int .i64 0, .slice none 0 0, .slice none 0 0, .slice none 0 0, .slice none 0 0], .row (.slice A26 v24.1.Frame.Color.length cp27) 61 k_Ar4_Int.sz v24.1.Frame.Color.length cs28, .row (.slice A31 v24.1.Frame.Depth.length cp32) 3 kInt.sz v24.1.Frame.Depth.length cs33, .row (.slice A36 v24.1.Frame.Item.length cp37) 3 kInt.sz v24.1.Frame.Item.length cs38, .row (.slice A41 v24.1.Frame.Tri.length cp42) 3 kInt.sz v24.1.Frame.Tri.length cs43, .blk b46 121 [.int .i64 v24.1.Frame.W, .int .i64 v24.1.Frame.H, .slice A26 v24.1.Frame.Color.length cp27, .slice A31 v24.1.Frame.Depth.length cp32, .slice A36 v24.1.Frame.Item.length cp37, .slice A41 v24.1.Frame.Tri.length cp42]] [RE.rd k_Ar4_Int A1 cp2 a0.Color, RE.rd kInt A5 cp6 a0.Depth, RE.rd kInt A9 cp10 a0.Item, RE.rd kInt A13 cp14 a0.Tri, RE.chunks k_Ar4_Int cs28 v24.1.Frame.Color, RE.chunks kInt cs33 v24.1.Frame.Depth, RE.chunks kInt cs38 v24.1.Frame.Item, RE.chunks kInt cs43 v24.1.Frame.Tri] := H.below H2.base
  clear H2
  refine ⟨_, rfl, ?_⟩
  show RL _ _ _ _ _ _ _
  refine RL_pure (by exact wn0 rfl) (by rfl) (by rfl) (x_not (by rfl)) ?_
  refine RL_nil ?_
  refine W_cond (by rfl) (fun hb => ?_) (fun hb => ?_)
  ·have hm := cond_t hb hm
   refine W_seq ?_
   refine W_region ?_
   refine RL_pure (by exact wn0 rfl) (by rfl) (by rfl) (x_build (vs := []) (cs := [.int .i64 0, .int .i64 0, .slice none 0 0, .slice none 0 0, .slice none 0 0, .slice none 0 0]) (by rfl) (by kernel_rfl)) ?_
   refine RL_cons (O_store (i := 2) (off := 0) (by exact wn0 rfl) (by rfl) (by rfl) H (by rfl) (vs := [.int .i64 0, .int .i64 0, .slice none 0 0, .slice none 0 0, .slice none 0 0, .slice none 0 0]) (by rfl) sz25 (by rfl) (by rfl) (by rfl) (fun w57 (H : Sep ok w w57 [.blk b17 25 [.int .i64 a0.W, .int .i64 a0.H, .slice A1 a0.Color.length cp2, .slice A5 a0.Depth.length cp6, .slice A9 a0.Item.length cp10, .slice A13 a0.Tri.length cp14], .blk b19 61 [.int .u8 a4.a0, .int .u8 a4.a1, .int .u8 a4.a2, .int .u8 a4.a3], .blk b21 25 [.int .i64 0, .int .i64 0, .slice none 0 0, .slice none 0 0, .slice none 0 0, .slice none 0 0], .row (.slice A26 v24.1.Frame.Color.length cp27) 61 k_Ar4_Int.sz v24.1.Frame.Color.length cs28, .row (.slice A31 v24.1.Frame.Depth.length cp32) 3 kInt.sz v24.1.Frame.Depth.length cs33, .row (.slice A36 v24.1.Frame.Item.length cp37) 3 kInt.sz v24.1.Frame.Item.length cs38, .row (.slice A41 v24.1.Frame.Tri.length cp42) 3 kInt.sz v24.1.Frame.Tri.length cs43, .blk b46 121 [.int .i64 v24.1.Frame.W, .int .i64 v24.1.Frame.H, .slice A26 v24.1.Frame.Color.length cp27, .slice A31 v24.1.Frame.Depth.length cp32, .slice A36 v24.1.Frame.Item.length cp37, .slice A41 v24.1.Frame.Tri.length cp42]] [RE.rd k_Ar4_Int A1 cp2 a0.Color, RE.rd kInt A5 cp6 a0.Depth, RE.rd kInt A9 cp10 a0.Item, RE.rd kInt A13 cp14 a0.Tri, RE.chunks k_Ar4_Int cs28 v24.1.Frame.Color, RE.chunks kInt cs33 v24.1.Frame.Depth, RE.chunks kInt cs38 v24.1.Frame.Item, RE.chunks kInt cs43 v24.1.Frame.Tri]) => ?_))
   refine RL_pure (by exact wn0 rfl) (by rfl) (by rfl) (x_assign (v := .int .i64 2) (by rfl)) ?_
   refine RL_nil ?_
   refine W_ret ?_
   have H : Sep ok w w57 [.blk b17 25 [.int .i64 a0.W, .int .i64 a0.H, .slice A1 a0.Color.length cp2, .slice A5 a0.Depth.length cp6, .slice A9 a0.Item.length cp10, .slice A13 a0.Tri.length cp14], .blk b19 61 [.int .u8 a4.a0, .int .u8 a4.a1, .int .u8 a4.a2, .int .u8 a4.a3], .blk b21 25 [.int .i64 0, .int .i64 0, .slice none 0 0, .slice none 0 0, .slice none 0 0, .slice none 0 0], .row (.slice A26 v24.1.Frame.Color.length cp27) 61 k_Ar4_Int.sz v24.1.Frame.Color.length cs28, .row (.slice A31 v24.1.Frame.Depth.length cp32) 3 kInt.sz v24.1.Frame.Depth.length cs33, .row (.slice A36 v24.1.Frame.Item.length cp37) 3 kInt.sz v24.1.Frame.Item.length cs38, .row (.slice A41 v24.1.Frame.Tri.length cp42) 3 kInt.sz v24.1.Frame.Tri.length cs43, .blk b46 121 [.int .i64 v24.1.Frame.W, .int .i64 v24.1.Frame.H, .slice A26 v24.1.Frame.Color.length cp27, .slice A31 v24.1.Frame.Depth.length cp32, .slice A36 v24.1.Frame.Item.length cp37, .slice A41 v24.1.Frame.Tri.length cp42]] [RE.rd k_Ar4_Int A1 cp2 a0.Color, RE.rd kInt A5 cp6 a0.Depth, RE.rd kInt A9 cp10 a0.Item, RE.rd kInt A13 cp14 a0.Tri, RE.chunks k_Ar4_Int cs28 v24.1.Frame.Color, RE.chunks kInt cs33 v24.1.Frame.Depth, RE.chunks kInt cs38 v24.1.Frame.Item, RE.chunks kInt cs43 v24.1.Frame.Tri, RE.rd k_Ar4_Int none 0 ([])] := Sep.also H (re := RE.rd k_Ar4_Int none 0 ([])) (Rd.nil (by decide))
   have H : Sep ok w w57 [.blk b17 25 [.int .i64 a0.W, .int .i64 a0.H, .slice A1 a0.Color.length cp2, .slice A5 a0.Depth.length cp6, .slice A9 a0.Item.length cp10, .slice A13 a0.Tri.length cp14], .blk b19 61 [.int .u8 a4.a0, .int .u8 a4.a1, .int .u8 a4.a2, .int .u8 a4.a3], .blk b21 25 [.int .i64 0, .int .i64 0, .slice none 0 0, .slice none 0 0, .slice none 0 0, .slice none 0 0], .row (.slice A26 v24.1.Frame.Color.length cp27) 61 k_Ar4_Int.sz v24.1.Frame.Color.length cs28, .row (.slice A31 v24.1.Frame.Depth.length cp32) 3 kInt.sz v24.1.Frame.Depth.length cs33, .row (.slice A36 v24.1.Frame.Item.length cp37) 3 kInt.sz v24.1.Frame.Item.length cs38, .row (.slice A41 v24.1.Frame.Tri.length cp42) 3 kInt.sz v24.1.Frame.Tri.length cs43, .blk b46 121 [.int .i64 v24.1.Frame.W, .int .i64 v24.1.Frame.H, .slice A26 v24.1.Frame.Color.length cp27, .slice A31 v24.1.Frame.Depth.length cp32, .slice A36 v24.1.Frame.Item.length cp37, .slice A41 v24.1.Frame.Tri.length cp42]] [RE.rd k_Ar4_Int A1 cp2 a0.Color, RE.rd kInt A5 cp6 a0.Depth, RE.rd kInt A9 cp10 a0.Item, RE.rd kInt A13 cp14 a0.Tri, RE.chunks k_Ar4_Int cs28 v24.1.Frame.Color, RE.chunks kInt cs33 v24.1.Frame.Depth, RE.chunks kInt cs38 v24.1.Frame.Item, RE.chunks kInt cs43 v24.1.Frame.Tri, RE.rd k_Ar4_Int none 0 ([]), RE.rd kInt none 0 ([])] := Sep.also H (re := RE.rd kInt none 0 ([])) (Rd.nil (by decide))
   have H : Sep ok w w57 [.blk b17 25 [.int .i64 a0.W, .int .i64 a0.H, .slice A1 a0.Color.length cp2, .slice A5 a0.Depth.length cp6, .slice A9 a0.Item.length cp10, .slice A13 a0.Tri.length cp14], .blk b19 61 [.int .u8 a4.a0, .int .u8 a4.a1, .int .u8 a4.a2, .int .u8 a4.a3], .blk b21 25 [.int .i64 0, .int .i64 0, .slice none 0 0, .slice none 0 0, .slice none 0 0, .slice none 0 0], .row (.slice A26 v24.1.Frame.Color.length cp27) 61 k_Ar4_Int.sz v24.1.Frame.Color.length cs28, .row (.slice A31 v24.1.Frame.Depth.length cp32) 3 kInt.sz v24.1.Frame.Depth.length cs33, .row (.slice A36 v24.1.Frame.Item.length cp37) 3 kInt.sz v24.1.Frame.Item.length cs38, .row (.slice A41 v24.1.Frame.Tri.length cp42) 3 kInt.sz v24.1.Frame.Tri.length cs43, .blk b46 121 [.int .i64 v24.1.Frame.W, .int .i64 v24.1.Frame.H, .slice A26 v24.1.Frame.Color.length cp27, .slice A31 v24.1.Frame.Depth.length cp32, .slice A36 v24.1.Frame.Item.length cp37, .slice A41 v24.1.Frame.Tri.length cp42]] [RE.rd k_Ar4_Int A1 cp2 a0.Color, RE.rd kInt A5 cp6 a0.Depth, RE.rd kInt A9 cp10 a0.Item, RE.rd kInt A13 cp14 a0.Tri, RE.chunks k_Ar4_Int cs28 v24.1.Frame.Color, RE.chunks kInt cs33 v24.1.Frame.Depth, RE.chunks kInt cs38 v24.1.Frame.Item, RE.chunks kInt cs43 v24.1.Frame.Tri, RE.rd k_Ar4_Int none 0 ([]), RE.rd kInt none 0 ([]), RE.rd kInt none 0 ([])] := Sep.also H (re := RE.rd kInt none 0 ([])) (Rd.nil (by decide))
   have H : Sep ok w w57 [.blk b17 25 [.int .i64 a0.W, .int .i64 a0.H, .slice A1 a0.Color.length cp2, .slice A5 a0.Depth.length cp6, .slice A9 a0.Item.length cp10, .slice A13 a0.Tri.length cp14], .blk b19 61 [.int .u8 a4.a0, .int .u8 a4.a1, .int .u8 a4.a2, .int .u8 a4.a3], .blk b21 25 [.int .i64 0, .int .i64 0, .slice none 0 0, .slice none 0 0, .slice none 0 0, .slice none 0 0], .row (.slice A26 v24.1.Frame.Color.length cp27) 61 k_Ar4_Int.sz v24.1.Frame.Color.length cs28, .row (.slice A31 v24.1.Frame.Depth.length cp32) 3 kInt.sz v24.1.Frame.Depth.length cs33, .row (.slice A36 v24.1.Frame.Item.length cp37) 3 kInt.sz v24.1.Frame.Item.length cs38, .row (.slice A41 v24.1.Frame.Tri.length cp42) 3 kInt.sz v24.1.Frame.Tri.length cs43, .blk b46 121 [.int .i64 v24.1.Frame.W, .int .i64 v24.1.Frame.H, .slice A26 v24.1.Frame.Color.length cp27, .slice A31 v24.1.Frame.Depth.length cp32, .slice A36 v24.1.Frame.Item.length cp37, .slice A41 v24.1.Frame.Tri.length cp42]] [RE.rd k_Ar4_Int A1 cp2 a0.Color, RE.rd kInt A5 cp6 a0.Depth, RE.rd kInt A9 cp10 a0.Item, RE.rd kInt A13 cp14 a0.Tri, RE.chunks k_Ar4_Int cs28 v24.1.Frame.Color, RE.chunks kInt cs33 v24.1.Frame.Depth, RE.chunks kInt cs38 v24.1.Frame.Item, RE.chunks kInt cs43 v24.1.Frame.Tri, RE.rd k_Ar4_Int none 0 ([]), RE.rd kInt none 0 ([]), RE.rd kInt none 0 ([]), RE.rd kInt none 0 ([])] := Sep.also H (re := RE.rd kInt none 0 ([])) (Rd.nil (by decide))
   obtain rfl := Option.some.inj hm
   exact ⟨[.agg #[.int .i64 0, .int .i64 0, .slice none 0 0, .slice none 0 0, .slice none 0 0, .slice none 0 0], .int .i64 2], (.cellA (by rfl) ag25 (H.cells (i := 2) (by rfl)) (by rfl) (.tmp (by rfl) rfl)), none, 0, none, 0, none, 0, none, 0, rfl, (H.forgetAll).pick [8, 9, 10, 11]⟩
  ·have hm := cond_f hb hm
   refine W_skip ?_
   refine W_join (fun r' w' => ∃ (l_row29_1 : (List (Ar4 Int))), ∃ (A_row29_1 : Option Addr), ∃ (c_row29_1 : Nat), ∃ (cs_row29_1 : List Value), m27_j1 K v24 l_row29_1 = some res ∧ Agr [(10, .pointer (some ⟨b21, 0, none⟩)), (12, .pointer (some ⟨b46, 0, none⟩))] r' ∧ Sep ok w w' [.blk b17 25 [.int .i64 a0.W, .int .i64 a0.H, .slice A1 a0.Color.length cp2, .slice A5 a0.Depth.length cp6, .slice A9 a0.Item.length cp10, .slice A13 a0.Tri.length cp14], .blk b19 61 [.int .u8 a4.a0, .int .u8 a4.a1, .int .u8 a4.a2, .int .u8 a4.a3], .blk b21 25 [.int .i64 0, .int .i64 0, .slice none 0 0, .slice none 0 0, .slice none 0 0, .slice none 0 0], .row (.slice A_row29_1 l_row29_1.length c_row29_1) 61 k_Ar4_Int.sz l_row29_1.length cs_row29_1, .row (.slice A31 v24.1.Frame.Depth.length cp32) 3 kInt.sz v24.1.Frame.Depth.length cs33, .row (.slice A36 v24.1.Frame.Item.length cp37) 3 kInt.sz v24.1.Frame.Item.length cs38, .row (.slice A41 v24.1.Frame.Tri.length cp42) 3 kInt.sz v24.1.Frame.Tri.length cs43, .blk b46 121 [.int .i64 v24.1.Frame.W, .int .i64 v24.1.Frame.H, .slice A_row29_1 l_row29_1.length c_row29_1, .slice A31 v24.1.Frame.Depth.length cp32, .slice A36 v24.1.Frame.Item.length cp37, .slice A41 v24.1.Frame.Tri.length cp42]] [RE.rd k_Ar4_Int A1 cp2 a0.Color, RE.rd kInt A5 cp6 a0.Depth, RE.rd kInt A9 cp10 a0.Item, RE.rd kInt A13 cp14 a0.Tri, RE.chunks k_Ar4_Int cs_row29_1 l_row29_1, RE.chunks kInt cs33 v24.1.Frame.Depth, RE.chunks kInt cs38 v24.1.Frame.Item, RE.chunks kInt cs43 v24.1.Frame.Tri]) ?_ ?_
   ·show W _ _ _ _ _ _
    refine W_seq ?_
    refine W_region ?_
    refine RL_pure (by exact wn0 rfl) (by rfl) (by rfl) (x_loadA (j := 0) (vs := [.int .i64 v24.1.Frame.W, .int .i64 v24.1.Frame.H, .slice A26 v24.1.Frame.Color.length cp27, .slice A31 v24.1.Frame.Depth.length cp32, .slice A36 v24.1.Frame.Item.length cp37, .slice A41 v24.1.Frame.Tri.length cp42]) ag121 (by rfl) (H.cells (i := 7) (by rfl)) (by rfl) (by rfl)) ?_
    refine RL_pure (by exact wn0 rfl) (by rfl) (by rfl) (x_move (v := .int .i64 v24.2.1) (by rfl)) ?_
    obtain ⟨v63, hv62, hm⟩ := bind_some hm
    refine RL_cons (O_call (by exact wn0 rfl) (by rfl) (by rfl) (x_callL (by rfl) (args := [.agg #[.int .i64 v24.1.Frame.W, .int .i64 v24.1.Frame.H, .slice A26 v24.1.Frame.Color.length cp27, .slice A31 v24.1.Frame.Depth.length cp32, .slice A36 v24.1.Frame.Item.length cp37, .slice A41 v24.1.Frame.Tri.length cp42], .int .i64 v24.2.1]) (by rfl) (cf71 _ _)) (c71 (fun _ => True) K w56 v24.1 A26 cp27 A31 cp32 A36 cp37 A41 cp42 v24.2.1 (H.rowRd (i := 3) (j := 4) (by rfl) (by rfl)) (H.rowRd (i := 4) (j := 5) (by rfl) (by rfl)) (H.rowRd (i := 5) (j := 6) (by rfl) (by rfl)) (H.rowRd (i := 6) (j := 7) (by rfl) (by rfl)) v63 hv62) ?_)
    rintro e w64 ⟨rfl, H2⟩
    have H : Sep ok w w64 [.blk b17 25 [.int .i64 a0.W, .int .i64 a0.H, .slice A1 a0.Color.length cp2, .slice A5 a0.Depth.length cp6, .slice A9 a0.Item.length cp10, .slice A13 a0.Tri.length cp14], .blk b19 61 [.int .u8 a4.a0, .int .u8 a4.a1, .int .u8 a4.a2, .int .u8 a4.a3], .blk b21 25 [.int .i64 0, .int .i64 0, .slice none 0 0, .slice none 0 0, .slice none 0 0, .slice none 0 0], .row (.slice A26 v24.1.Frame.Color.length cp27) 61 k_Ar4_Int.sz v24.1.Frame.Color.length cs28, .row (.slice A31 v24.1.Frame.Depth.length cp32) 3 kInt.sz v24.1.Frame.Depth.length cs33, .row (.slice A36 v24.1.Frame.Item.length cp37) 3 kInt.sz v24.1.Frame.Item.length cs38, .row (.slice A41 v24.1.Frame.Tri.length cp42) 3 kInt.sz v24.1.Frame.Tri.length cs43, .blk b46 121 [.int .i64 v24.1.Frame.W, .int .i64 v24.1.Frame.H, .slice A26 v24.1.Frame.Color.length cp27, .slice A31 v24.1.Frame.Depth.length cp32, .slice A36 v24.1.Frame.Item.length cp37, .slice A41 v24.1.Frame.Tri.length cp42]] [RE.rd k_Ar4_Int A1 cp2 a0.Color, RE.rd kInt A5 cp6 a0.Depth, RE.rd kInt A9 cp10 a0.Item, RE.rd kInt A13 cp14 a0.Tri, RE.chunks k_Ar4_Int cs28 v24.1.Frame.Color, RE.chunks kInt cs33 v24.1.Frame.Depth, RE.chunks kInt cs38 v24.1.Frame.Item, RE.chunks kInt cs43 v24.1.Frame.Tri] := H.below H2.base
    clear H2
    refine ⟨_, rfl, ?_⟩
    show RL _ _ _ _ _ _ _
    refine RL_pure (by exact wn0 rfl) (by rfl) (by rfl) (x_move (v := .bool v63) (by rfl)) ?_
    obtain ⟨b65, hmS, hm⟩ := bind_some hm
    refine RL_cut 9 (fun r' w' => Agr [(43, .bool b65), (9, .pointer (some ⟨b19, 0, none⟩)), (10, .pointer (some ⟨b21, 0, none⟩)), (12, .pointer (some ⟨b46, 0, none⟩)), (13, .int .i64 v24.2.1)] r' ∧ Sep ok w w' [.blk b17 25 [.int .i64 a0.W, .int .i64 a0.H, .slice A1 a0.Color.length cp2, .slice A5 a0.Depth.length cp6, .slice A9 a0.Item.length cp10, .slice A13 a0.Tri.length cp14], .blk b19 61 [.int .u8 a4.a0, .int .u8 a4.a1, .int .u8 a4.a2, .int .u8 a4.a3], .blk b21 25 [.int .i64 0, .int .i64 0, .slice none 0 0, .slice none 0 0, .slice none 0 0, .slice none 0 0], .row (.slice A26 v24.1.Frame.Color.length cp27) 61 k_Ar4_Int.sz v24.1.Frame.Color.length cs28, .row (.slice A31 v24.1.Frame.Depth.length cp32) 3 kInt.sz v24.1.Frame.Depth.length cs33, .row (.slice A36 v24.1.Frame.Item.length cp37) 3 kInt.sz v24.1.Frame.Item.length cs38, .row (.slice A41 v24.1.Frame.Tri.length cp42) 3 kInt.sz v24.1.Frame.Tri.length cs43, .blk b46 121 [.int .i64 v24.1.Frame.W, .int .i64 v24.1.Frame.H, .slice A26 v24.1.Frame.Color.length cp27, .slice A31 v24.1.Frame.Depth.length cp32, .slice A36 v24.1.Frame.Item.length cp37, .slice A41 v24.1.Frame.Tri.length cp42]] [RE.rd k_Ar4_Int A1 cp2 a0.Color, RE.rd kInt A5 cp6 a0.Depth, RE.rd kInt A9 cp10 a0.Item, RE.rd kInt A13 cp14 a0.Tri, RE.chunks k_Ar4_Int cs28 v24.1.Frame.Color, RE.chunks kInt cs33 v24.1.Frame.Depth, RE.chunks kInt cs38 v24.1.Frame.Item, RE.chunks kInt cs43 v24.1.Frame.Tri]) ?_ ?_
    ·cases hbS : v63
     ·have hm := cond_f hbS hmS
      refine RL_pure (by exact wn1 rfl rfl rfl rfl) (by rfl) (by rfl) (x_move (v := .int .i64 a3) (by rfl)) ?_
      refine RL_pure (by exact wn1 rfl rfl rfl rfl) (by rfl) (by rfl) (x_fieldAddr fo121_0 (by rfl)) ?_
      refine RL_pure (by exact wn1 rfl rfl rfl rfl) (by rfl) (by rfl) (x_fieldAddr fo25_3 (by rfl)) ?_
      refine RL_pure (by exact wn1 rfl rfl rfl rfl) (by rfl) (by rfl) (x_load (j := 3) (v := .slice A31 v24.1.Frame.Depth.length cp32) sc23 (by rfl) (H.cells (i := 7) (by rfl)) (by rfl)) ?_
      refine RL_pure (by exact wn1 rfl rfl rfl rfl) (by rfl) (by rfl) (x_move (v := .int .i64 v24.2.1) (by rfl)) ?_
      obtain ⟨el66, h67, h68, he69, hm⟩ := idx_some hm
      obtain ⟨g71, _, hA70, _, _⟩ := H.rowIdx (i := 4) (j := 5) (by rfl) (by rfl) he69
      refine RL_pure (by exact wn1 rfl rfl rfl rfl) (by rfl) (by rfl) (x_indexAddr sl23 sz3 (by rfl) (by rfl) hA70 h67 h68) ?_
      refine RL_pure (by exact wn1 rfl rfl rfl rfl) (by rfl) (by rfl) (x_load (j := 0) (v := .int .i64 el66) sc3 (by rfl) (H.rowFlatAt (n := 1) (i := 4) (j := 5) (by rfl) (by rfl) hA70 he69) (by rfl)) ?_
      refine RL_pure (by exact wn1 rfl rfl rfl rfl) (by rfl) (by rfl) (x_gtr (by rfl) (by rfl)) ?_
      refine RL_pure (by exact wn0 rfl) (by rfl) (by rfl) (x_pick_f (v := .bool (decide (el66 < a3))) (by rfl) (by rfl)) ?_
      refine RL_nil ?_
      exact ⟨⟨congrArg Value.bool (Option.some.inj hm), rfl, rfl, rfl, rfl, trivial⟩, H⟩
     ·have hm := cond_t hbS hmS
      refine RL_cons (OpR_off (by exact wn2 rfl rfl rfl rfl) (by rfl) (by rfl) ?_)
      refine RL_cons (OpR_off (by exact wn2 rfl rfl rfl rfl) (by rfl) (by rfl) ?_)
      refine RL_cons (OpR_off (by exact wn2 rfl rfl rfl rfl) (by rfl) (by rfl) ?_)
      refine RL_cons (OpR_off (by exact wn2 rfl rfl rfl rfl) (by rfl) (by rfl) ?_)
      refine RL_cons (OpR_off (by exact wn2 rfl rfl rfl rfl) (by rfl) (by rfl) ?_)
      refine RL_cons (OpR_off (by exact wn2 rfl rfl rfl rfl) (by rfl) (by rfl) ?_)
      refine RL_cons (OpR_off (by exact wn2 rfl rfl rfl rfl) (by rfl) (by rfl) ?_)
      refine RL_cons (OpR_off (by exact wn2 rfl rfl rfl rfl) (by rfl) (by rfl) ?_)
      refine RL_pure (by exact wn0 rfl) (by rfl) (by rfl) (x_pick_t (v := .bool true) (by rfl) (by rfl)) ?_
      refine RL_nil ?_
      exact ⟨⟨congrArg Value.bool (Option.some.inj hm), rfl, rfl, rfl, rfl, trivial⟩, H⟩
    ·rintro r' w' ⟨hA, H⟩
     obtain ⟨r73, rfl⟩ := regen _ hA; clear hA
     obtain ⟨w74, rfl⟩ : ∃ W : World, W = w' := ⟨_, rfl⟩
     show RL _ _ _ _ _ _ _
     refine RL_nil ?_
     refine W_cond (by rfl) (fun hb => ?_) (fun hb => ?_)
     ·have hm := cond_t hb hm
      refine W_draw [.free 0, .free 1, .take 2, .free 3, .take 4, .free 5, .free 6, .take 7, .free 8, .free 9, .take 10, .run 11, .free 12, .tail 13] (fun wS => Sep ok w wS [.blk b17 25 [.int .i64 a0.W, .int .i64 a0.H, .slice A1 a0.Color.length cp2, .slice A5 a0.Depth.length cp6, .slice A9 a0.Item.length cp10, .slice A13 a0.Tri.length cp14], .blk b19 61 [.int .u8 a4.a0, .int .u8 a4.a1, .int .u8 a4.a2, .int .u8 a4.a3], .blk b21 25 [.int .i64 0, .int .i64 0, .slice none 0 0, .slice none 0 0, .slice none 0 0, .slice none 0 0], .row (.slice A26 v24.1.Frame.Color.length cp27) 61 k_Ar4_Int.sz v24.1.Frame.Color.length cs28, .row (.slice A31 v24.1.Frame.Depth.length cp32) 3 kInt.sz v24.1.Frame.Depth.length cs33, .row (.slice A36 v24.1.Frame.Item.length cp37) 3 kInt.sz v24.1.Frame.Item.length cs38, .row (.slice A41 v24.1.Frame.Tri.length cp42) 3 kInt.sz v24.1.Frame.Tri.length cs43, .blk b46 121 [.int .i64 v24.1.Frame.W, .int .i64 v24.1.Frame.H, .slice A26 v24.1.Frame.Color.length cp27, .slice A31 v24.1.Frame.Depth.length cp32, .slice A36 v24.1.Frame.Item.length cp37, .slice A41 v24.1.Frame.Tri.length cp42]] [RE.rd k_Ar4_Int A1 cp2 a0.Color, RE.rd kInt A5 cp6 a0.Depth, RE.rd kInt A9 cp10 a0.Item, RE.rd kInt A13 cp14 a0.Tri, RE.chunks k_Ar4_Int cs28 v24.1.Frame.Color, RE.chunks kInt cs33 v24.1.Frame.Depth, RE.chunks kInt cs38 v24.1.Frame.Item, RE.chunks kInt cs43 v24.1.Frame.Tri]) [13] [0, 1, 3, 5, 6, 8, 9, 12] mixed0 (by kernel_rfl) (by kernel_rfl) (by kernel_rfl) (by rfl) (by exact H.drew) ?_
      obtain ⟨w75, hW⟩ : ∃ W : World, W = { w74 with drawn := w74.drawn + 1 } := ⟨_, rfl⟩
      rw [← hW]
      have H : Sep ok w w75 [.blk b17 25 [.int .i64 a0.W, .int .i64 a0.H, .slice A1 a0.Color.length cp2, .slice A5 a0.Depth.length cp6, .slice A9 a0.Item.length cp10, .slice A13 a0.Tri.length cp14], .blk b19 61 [.int .u8 a4.a0, .int .u8 a4.a1, .int .u8 a4.a2, .int .u8 a4.a3], .blk b21 25 [.int .i64 0, .int .i64 0, .slice none 0 0, .slice none 0 0, .slice none 0 0, .slice none 0 0], .row (.slice A26 v24.1.Frame.Color.length cp27) 61 k_Ar4_Int.sz v24.1.Frame.Color.length cs28, .row (.slice A31 v24.1.Frame.Depth.length cp32) 3 kInt.sz v24.1.Frame.Depth.length cs33, .row (.slice A36 v24.1.Frame.Item.length cp37) 3 kInt.sz v24.1.Frame.Item.length cs38, .row (.slice A41 v24.1.Frame.Tri.length cp42) 3 kInt.sz v24.1.Frame.Tri.length cs43, .blk b46 121 [.int .i64 v24.1.Frame.W, .int .i64 v24.1.Frame.H, .slice A26 v24.1.Frame.Color.length cp27, .slice A31 v24.1.Frame.Depth.length cp32, .slice A36 v24.1.Frame.Item.length cp37, .slice A41 v24.1.Frame.Tri.length cp42]] [RE.rd k_Ar4_Int A1 cp2 a0.Color, RE.rd kInt A5 cp6 a0.Depth, RE.rd kInt A9 cp10 a0.Item, RE.rd kInt A13 cp14 a0.Tri, RE.chunks k_Ar4_Int cs28 v24.1.Frame.Color, RE.chunks kInt cs33 v24.1.Frame.Depth, RE.chunks kInt cs38 v24.1.Frame.Item, RE.chunks kInt cs43 v24.1.Frame.Tri] := by rw [hW]; exact H.drew
      clear hW
      refine PR_free (by rfl) (by rfl) (by rfl) (by exact wn0 rfl) (fun wS => (x_fieldAddr fo121_0 (by rfl))) ?_
      refine PR_free (by rfl) (by rfl) (by rfl) (by exact wn0 rfl) (fun wS => (x_fieldAddr fo25_2 (by rfl))) ?_
      refine PR_take (by rfl) (by rfl) (by rfl) (by exact wn0 rfl) (fun wS (H : Sep ok w wS [.blk b17 25 [.int .i64 a0.W, .int .i64 a0.H, .slice A1 a0.Color.length cp2, .slice A5 a0.Depth.length cp6, .slice A9 a0.Item.length cp10, .slice A13 a0.Tri.length cp14], .blk b19 61 [.int .u8 a4.a0, .int .u8 a4.a1, .int .u8 a4.a2, .int .u8 a4.a3], .blk b21 25 [.int .i64 0, .int .i64 0, .slice none 0 0, .slice none 0 0, .slice none 0 0, .slice none 0 0], .row (.slice A26 v24.1.Frame.Color.length cp27) 61 k_Ar4_Int.sz v24.1.Frame.Color.length cs28, .row (.slice A31 v24.1.Frame.Depth.length cp32) 3 kInt.sz v24.1.Frame.Depth.length cs33, .row (.slice A36 v24.1.Frame.Item.length cp37) 3 kInt.sz v24.1.Frame.Item.length cs38, .row (.slice A41 v24.1.Frame.Tri.length cp42) 3 kInt.sz v24.1.Frame.Tri.length cs43, .blk b46 121 [.int .i64 v24.1.Frame.W, .int .i64 v24.1.Frame.H, .slice A26 v24.1.Frame.Color.length cp27, .slice A31 v24.1.Frame.Depth.length cp32, .slice A36 v24.1.Frame.Item.length cp37, .slice A41 v24.1.Frame.Tri.length cp42]] [RE.rd k_Ar4_Int A1 cp2 a0.Color, RE.rd kInt A5 cp6 a0.Depth, RE.rd kInt A9 cp10 a0.Item, RE.rd kInt A13 cp14 a0.Tri, RE.chunks k_Ar4_Int cs28 v24.1.Frame.Color, RE.chunks kInt cs33 v24.1.Frame.Depth, RE.chunks kInt cs38 v24.1.Frame.Item, RE.chunks kInt cs43 v24.1.Frame.Tri]) => (x_load (j := 2) (v := .slice A26 v24.1.Frame.Color.length cp27) sc22 (by rfl) (H.cells (i := 7) (by rfl)) (by rfl))) ?_
      refine PR_free (by rfl) (by rfl) (by rfl) (by exact wn0 rfl) (fun wS => (x_move (v := .int .i64 v24.2.1) (by rfl))) ?_
      refine PR_take (by rfl) (by rfl) (by rfl) (by exact wn0 rfl) (fun wS (H : Sep ok w wS [.blk b17 25 [.int .i64 a0.W, .int .i64 a0.H, .slice A1 a0.Color.length cp2, .slice A5 a0.Depth.length cp6, .slice A9 a0.Item.length cp10, .slice A13 a0.Tri.length cp14], .blk b19 61 [.int .u8 a4.a0, .int .u8 a4.a1, .int .u8 a4.a2, .int .u8 a4.a3], .blk b21 25 [.int .i64 0, .int .i64 0, .slice none 0 0, .slice none 0 0, .slice none 0 0, .slice none 0 0], .row (.slice A26 v24.1.Frame.Color.length cp27) 61 k_Ar4_Int.sz v24.1.Frame.Color.length cs28, .row (.slice A31 v24.1.Frame.Depth.length cp32) 3 kInt.sz v24.1.Frame.Depth.length cs33, .row (.slice A36 v24.1.Frame.Item.length cp37) 3 kInt.sz v24.1.Frame.Item.length cs38, .row (.slice A41 v24.1.Frame.Tri.length cp42) 3 kInt.sz v24.1.Frame.Tri.length cs43, .blk b46 121 [.int .i64 v24.1.Frame.W, .int .i64 v24.1.Frame.H, .slice A26 v24.1.Frame.Color.length cp27, .slice A31 v24.1.Frame.Depth.length cp32, .slice A36 v24.1.Frame.Item.length cp37, .slice A41 v24.1.Frame.Tri.length cp42]] [RE.rd k_Ar4_Int A1 cp2 a0.Color, RE.rd kInt A5 cp6 a0.Depth, RE.rd kInt A9 cp10 a0.Item, RE.rd kInt A13 cp14 a0.Tri, RE.chunks k_Ar4_Int cs28 v24.1.Frame.Color, RE.chunks kInt cs33 v24.1.Frame.Depth, RE.chunks kInt cs38 v24.1.Frame.Item, RE.chunks kInt cs43 v24.1.Frame.Tri]) => (x_loadA (j := 0) (vs := [.int .u8 a4.a0, .int .u8 a4.a1, .int .u8 a4.a2, .int .u8 a4.a3]) ag61 (by rfl) (H.cells (i := 1) (by rfl)) (by rfl) (by rfl))) ?_
      refine PR_free (by rfl) (by rfl) (by rfl) (by exact wn0 rfl) (fun wS => (x_fieldAddr fo121_0 (by rfl))) ?_
      refine PR_free (by rfl) (by rfl) (by rfl) (by exact wn0 rfl) (fun wS => (x_fieldAddr fo25_2 (by rfl))) ?_
      refine PR_take (by rfl) (by rfl) (by rfl) (by exact wn0 rfl) (fun wS (H : Sep ok w wS [.blk b17 25 [.int .i64 a0.W, .int .i64 a0.H, .slice A1 a0.Color.length cp2, .slice A5 a0.Depth.length cp6, .slice A9 a0.Item.length cp10, .slice A13 a0.Tri.length cp14], .blk b19 61 [.int .u8 a4.a0, .int .u8 a4.a1, .int .u8 a4.a2, .int .u8 a4.a3], .blk b21 25 [.int .i64 0, .int .i64 0, .slice none 0 0, .slice none 0 0, .slice none 0 0, .slice none 0 0], .row (.slice A26 v24.1.Frame.Color.length cp27) 61 k_Ar4_Int.sz v24.1.Frame.Color.length cs28, .row (.slice A31 v24.1.Frame.Depth.length cp32) 3 kInt.sz v24.1.Frame.Depth.length cs33, .row (.slice A36 v24.1.Frame.Item.length cp37) 3 kInt.sz v24.1.Frame.Item.length cs38, .row (.slice A41 v24.1.Frame.Tri.length cp42) 3 kInt.sz v24.1.Frame.Tri.length cs43, .blk b46 121 [.int .i64 v24.1.Frame.W, .int .i64 v24.1.Frame.H, .slice A26 v24.1.Frame.Color.length cp27, .slice A31 v24.1.Frame.Depth.length cp32, .slice A36 v24.1.Frame.Item.length cp37, .slice A41 v24.1.Frame.Tri.length cp42]] [RE.rd k_Ar4_Int A1 cp2 a0.Color, RE.rd kInt A5 cp6 a0.Depth, RE.rd kInt A9 cp10 a0.Item, RE.rd kInt A13 cp14 a0.Tri, RE.chunks k_Ar4_Int cs28 v24.1.Frame.Color, RE.chunks kInt cs33 v24.1.Frame.Depth, RE.chunks kInt cs38 v24.1.Frame.Item, RE.chunks kInt cs43 v24.1.Frame.Tri]) => (x_load (j := 2) (v := .slice A26 v24.1.Frame.Color.length cp27) sc22 (by rfl) (H.cells (i := 7) (by rfl)) (by rfl))) ?_
      refine PR_free (by rfl) (by rfl) (by rfl) (by exact wn0 rfl) (fun wS => (x_move (v := .int .i64 v24.2.1) (by rfl))) ?_
      obtain ⟨el76, h77, h78, he79, hm⟩ := idx_some hm
      obtain ⟨g81, _, hA80, _, _⟩ := H.rowIdx (i := 3) (j := 4) (by rfl) (by rfl) he79
      refine PR_free (by rfl) (by rfl) (by rfl) (by exact wn0 rfl) (fun wS => (x_indexAddr sl22 sz61 (by rfl) (by rfl) hA80 h77 h78)) ?_
      refine PR_take (by rfl) (by rfl) (by rfl) (by exact wn0 rfl) (fun wS (H : Sep ok w wS [.blk b17 25 [.int .i64 a0.W, .int .i64 a0.H, .slice A1 a0.Color.length cp2, .slice A5 a0.Depth.length cp6, .slice A9 a0.Item.length cp10, .slice A13 a0.Tri.length cp14], .blk b19 61 [.int .u8 a4.a0, .int .u8 a4.a1, .int .u8 a4.a2, .int .u8 a4.a3], .blk b21 25 [.int .i64 0, .int .i64 0, .slice none 0 0, .slice none 0 0, .slice none 0 0, .slice none 0 0], .row (.slice A26 v24.1.Frame.Color.length cp27) 61 k_Ar4_Int.sz v24.1.Frame.Color.length cs28, .row (.slice A31 v24.1.Frame.Depth.length cp32) 3 kInt.sz v24.1.Frame.Depth.length cs33, .row (.slice A36 v24.1.Frame.Item.length cp37) 3 kInt.sz v24.1.Frame.Item.length cs38, .row (.slice A41 v24.1.Frame.Tri.length cp42) 3 kInt.sz v24.1.Frame.Tri.length cs43, .blk b46 121 [.int .i64 v24.1.Frame.W, .int .i64 v24.1.Frame.H, .slice A26 v24.1.Frame.Color.length cp27, .slice A31 v24.1.Frame.Depth.length cp32, .slice A36 v24.1.Frame.Item.length cp37, .slice A41 v24.1.Frame.Tri.length cp42]] [RE.rd k_Ar4_Int A1 cp2 a0.Color, RE.rd kInt A5 cp6 a0.Depth, RE.rd kInt A9 cp10 a0.Item, RE.rd kInt A13 cp14 a0.Tri, RE.chunks k_Ar4_Int cs28 v24.1.Frame.Color, RE.chunks kInt cs33 v24.1.Frame.Depth, RE.chunks kInt cs38 v24.1.Frame.Item, RE.chunks kInt cs43 v24.1.Frame.Tri]) => (x_loadA (j := 0) (vs := [.int .u8 el76.a0, .int .u8 el76.a1, .int .u8 el76.a2, .int .u8 el76.a3]) ag61 (by rfl) (H.rowFlatAt (n := 4) (i := 3) (j := 4) (by rfl) (by rfl) hA80 he79) (by rfl) (by rfl))) ?_
      obtain ⟨v84, hv83, hm⟩ := bind_some hm
      refine PR_run (by rfl) (O_call (by exact wn0 rfl) (by rfl) (by rfl) (x_callL (by rfl) (args := [.agg #[.int .u8 a4.a0, .int .u8 a4.a1, .int .u8 a4.a2, .int .u8 a4.a3], .agg #[.int .u8 el76.a0, .int .u8 el76.a1, .int .u8 el76.a2, .int .u8 el76.a3]]) (by rfl) (cf72 _ _)) (c72 (fun _ => True) K w75 a4 el76  v84 hv83) ?_)
      rintro e w85 ⟨rfl, H2⟩
      have H : Sep ok w w85 [.blk b17 25 [.int .i64 a0.W, .int .i64 a0.H, .slice A1 a0.Color.length cp2, .slice A5 a0.Depth.length cp6, .slice A9 a0.Item.length cp10, .slice A13 a0.Tri.length cp14], .blk b19 61 [.int .u8 a4.a0, .int .u8 a4.a1, .int .u8 a4.a2, .int .u8 a4.a3], .blk b21 25 [.int .i64 0, .int .i64 0, .slice none 0 0, .slice none 0 0, .slice none 0 0, .slice none 0 0], .row (.slice A26 v24.1.Frame.Color.length cp27) 61 k_Ar4_Int.sz v24.1.Frame.Color.length cs28, .row (.slice A31 v24.1.Frame.Depth.length cp32) 3 kInt.sz v24.1.Frame.Depth.length cs33, .row (.slice A36 v24.1.Frame.Item.length cp37) 3 kInt.sz v24.1.Frame.Item.length cs38, .row (.slice A41 v24.1.Frame.Tri.length cp42) 3 kInt.sz v24.1.Frame.Tri.length cs43, .blk b46 121 [.int .i64 v24.1.Frame.W, .int .i64 v24.1.Frame.H, .slice A26 v24.1.Frame.Color.length cp27, .slice A31 v24.1.Frame.Depth.length cp32, .slice A36 v24.1.Frame.Item.length cp37, .slice A41 v24.1.Frame.Tri.length cp42]] [RE.rd k_Ar4_Int A1 cp2 a0.Color, RE.rd kInt A5 cp6 a0.Depth, RE.rd kInt A9 cp10 a0.Item, RE.rd kInt A13 cp14 a0.Tri, RE.chunks k_Ar4_Int cs28 v24.1.Frame.Color, RE.chunks kInt cs33 v24.1.Frame.Depth, RE.chunks kInt cs38 v24.1.Frame.Item, RE.chunks kInt cs43 v24.1.Frame.Tri] := H.below H2.base
      clear H2
      refine ⟨_, rfl, H, ?_⟩
      show PR _ _ _ _ _ _ _ _
      obtain ⟨el86, h87, h88, he89, hm⟩ := idx_some hm
      obtain ⟨g91, _, hA90, _, _⟩ := H.rowIdx (i := 3) (j := 4) (by rfl) (by rfl) he89
      refine PR_free (by rfl) (by rfl) (by rfl) (by exact wn0 rfl) (fun wS => (x_indexAddr sl22 sz61 (by rfl) (by rfl) hA90 h87 h88)) ?_
      obtain ⟨l95, hl96, hm⟩ := lete_some hm
      refine PR_tail (by rfl) (O_storeRow (D := k_Ar4_Int) (i := 3) (j := 4) (off := 0) (m := v24.2.1) (a := el86) (b := v84) (vs := [.int .u8 v84.a0, .int .u8 v84.a1, .int .u8 v84.a2, .int .u8 v84.a3]) (by exact wn0 rfl) H (by rfl) (by rfl) hA90 (by rfl) (by rfl) he89 (by rfl) sz61 (by rfl) (by rfl) (by intro ce hce; obtain rfl := hce; rfl) hl96 (fun w93 cs94 (H : Sep ok w w93 [.blk b17 25 [.int .i64 a0.W, .int .i64 a0.H, .slice A1 a0.Color.length cp2, .slice A5 a0.Depth.length cp6, .slice A9 a0.Item.length cp10, .slice A13 a0.Tri.length cp14], .blk b19 61 [.int .u8 a4.a0, .int .u8 a4.a1, .int .u8 a4.a2, .int .u8 a4.a3], .blk b21 25 [.int .i64 0, .int .i64 0, .slice none 0 0, .slice none 0 0, .slice none 0 0, .slice none 0 0], .row (.slice A26 l95.length cp27) 61 k_Ar4_Int.sz l95.length cs94, .row (.slice A31 v24.1.Frame.Depth.length cp32) 3 kInt.sz v24.1.Frame.Depth.length cs33, .row (.slice A36 v24.1.Frame.Item.length cp37) 3 kInt.sz v24.1.Frame.Item.length cs38, .row (.slice A41 v24.1.Frame.Tri.length cp42) 3 kInt.sz v24.1.Frame.Tri.length cs43, .blk b46 121 [.int .i64 v24.1.Frame.W, .int .i64 v24.1.Frame.H, .slice A26 v24.1.Frame.Color.length cp27, .slice A31 v24.1.Frame.Depth.length cp32, .slice A36 v24.1.Frame.Item.length cp37, .slice A41 v24.1.Frame.Tri.length cp42]] [RE.rd k_Ar4_Int A1 cp2 a0.Color, RE.rd kInt A5 cp6 a0.Depth, RE.rd kInt A9 cp10 a0.Item, RE.rd kInt A13 cp14 a0.Tri, RE.chunks k_Ar4_Int cs94 l95, RE.chunks kInt cs33 v24.1.Frame.Depth, RE.chunks kInt cs38 v24.1.Frame.Item, RE.chunks kInt cs43 v24.1.Frame.Tri]) => ?_))
      refine PR_nil ?_
      have hn97 : v24.1.Frame.Color.length = l95.length := by rw [← hl96]; exact (List.length_set ..).symm
      have H : Sep ok w w93 [.blk b17 25 [.int .i64 a0.W, .int .i64 a0.H, .slice A1 a0.Color.length cp2, .slice A5 a0.Depth.length cp6, .slice A9 a0.Item.length cp10, .slice A13 a0.Tri.length cp14], .blk b19 61 [.int .u8 a4.a0, .int .u8 a4.a1, .int .u8 a4.a2, .int .u8 a4.a3], .blk b21 25 [.int .i64 0, .int .i64 0, .slice none 0 0, .slice none 0 0, .slice none 0 0, .slice none 0 0], .row (.slice A26 l95.length cp27) 61 k_Ar4_Int.sz l95.length cs94, .row (.slice A31 v24.1.Frame.Depth.length cp32) 3 kInt.sz v24.1.Frame.Depth.length cs33, .row (.slice A36 v24.1.Frame.Item.length cp37) 3 kInt.sz v24.1.Frame.Item.length cs38, .row (.slice A41 v24.1.Frame.Tri.length cp42) 3 kInt.sz v24.1.Frame.Tri.length cs43, .blk b46 121 [.int .i64 v24.1.Frame.W, .int .i64 v24.1.Frame.H, .slice A26 l95.length cp27, .slice A31 v24.1.Frame.Depth.length cp32, .slice A36 v24.1.Frame.Item.length cp37, .slice A41 v24.1.Frame.Tri.length cp42]] [RE.rd k_Ar4_Int A1 cp2 a0.Color, RE.rd kInt A5 cp6 a0.Depth, RE.rd kInt A9 cp10 a0.Item, RE.rd kInt A13 cp14 a0.Tri, RE.chunks k_Ar4_Int cs94 l95, RE.chunks kInt cs33 v24.1.Frame.Depth, RE.chunks kInt cs38 v24.1.Frame.Item, RE.chunks kInt cs43 v24.1.Frame.Tri] := by (try rw [hn97] at H); exact H
      exact ⟨l95, A26, cp27, cs94, hm, ⟨rfl, rfl, trivial⟩, H⟩
     ·have hm := cond_f hb hm
      refine W_skip ?_
      exact ⟨v24.1.Frame.Color, A26, cp27, cs28, hm, ⟨rfl, rfl, trivial⟩, H⟩
   ·rintro r' w' ⟨l_row29_1, A_row29_1, c_row29_1, cs_row29_1, hm, hA, H⟩
    obtain ⟨r98, rfl⟩ := regen _ hA; clear hA
    obtain ⟨w99, rfl⟩ : ∃ W : World, W = w' := ⟨_, rfl⟩
    unfold m27_j1 at hm
    refine W_seq ?_
    refine W_region ?_
    refine RL_pure (by exact wn0 rfl) (by rfl) (by rfl) (x_fieldAddr fo121_0 (by rfl)) ?_
    refine RL_pure (by exact wn0 rfl) (by rfl) (by rfl) (x_loadA (j := 0) (vs := [.int .i64 v24.1.Frame.W, .int .i64 v24.1.Frame.H, .slice A_row29_1 l_row29_1.length c_row29_1, .slice A31 v24.1.Frame.Depth.length cp32, .slice A36 v24.1.Frame.Item.length cp37, .slice A41 v24.1.Frame.Tri.length cp42]) ag25 (by rfl) (H.cells (i := 7) (by rfl)) (by rfl) (by rfl)) ?_
    refine RL_cons (O_store (i := 2) (off := 0) (by exact wn0 rfl) (by rfl) (by rfl) H (by rfl) (vs := [.int .i64 v24.1.Frame.W, .int .i64 v24.1.Frame.H, .slice A_row29_1 l_row29_1.length c_row29_1, .slice A31 v24.1.Frame.Depth.length cp32, .slice A36 v24.1.Frame.Item.length cp37, .slice A41 v24.1.Frame.Tri.length cp42]) (by rfl) sz25 (by rfl) (by rfl) (by rfl) (fun w100 (H : Sep ok w w100 [.blk b17 25 [.int .i64 a0.W, .int .i64 a0.H, .slice A1 a0.Color.length cp2, .slice A5 a0.Depth.length cp6, .slice A9 a0.Item.length cp10, .slice A13 a0.Tri.length cp14], .blk b19 61 [.int .u8 a4.a0, .int .u8 a4.a1, .int .u8 a4.a2, .int .u8 a4.a3], .blk b21 25 [.int .i64 v24.1.Frame.W, .int .i64 v24.1.Frame.H, .slice A_row29_1 l_row29_1.length c_row29_1, .slice A31 v24.1.Frame.Depth.length cp32, .slice A36 v24.1.Frame.Item.length cp37, .slice A41 v24.1.Frame.Tri.length cp42], .row (.slice A_row29_1 l_row29_1.length c_row29_1) 61 k_Ar4_Int.sz l_row29_1.length cs_row29_1, .row (.slice A31 v24.1.Frame.Depth.length cp32) 3 kInt.sz v24.1.Frame.Depth.length cs33, .row (.slice A36 v24.1.Frame.Item.length cp37) 3 kInt.sz v24.1.Frame.Item.length cs38, .row (.slice A41 v24.1.Frame.Tri.length cp42) 3 kInt.sz v24.1.Frame.Tri.length cs43, .blk b46 121 [.int .i64 v24.1.Frame.W, .int .i64 v24.1.Frame.H, .slice A_row29_1 l_row29_1.length c_row29_1, .slice A31 v24.1.Frame.Depth.length cp32, .slice A36 v24.1.Frame.Item.length cp37, .slice A41 v24.1.Frame.Tri.length cp42]] [RE.rd k_Ar4_Int A1 cp2 a0.Color, RE.rd kInt A5 cp6 a0.Depth, RE.rd kInt A9 cp10 a0.Item, RE.rd kInt A13 cp14 a0.Tri, RE.chunks k_Ar4_Int cs_row29_1 l_row29_1, RE.chunks kInt cs33 v24.1.Frame.Depth, RE.chunks kInt cs38 v24.1.Frame.Item, RE.chunks kInt cs43 v24.1.Frame.Tri]) => ?_))
    refine RL_pure (by exact wn0 rfl) (by rfl) (by rfl) (x_assign (v := .int .i64 0) (by rfl)) ?_
    refine RL_nil ?_
    refine W_ret ?_
    have H : Sep ok w w100 [.blk b17 25 [.int .i64 a0.W, .int .i64 a0.H, .slice A1 a0.Color.length cp2, .slice A5 a0.Depth.length cp6, .slice A9 a0.Item.length cp10, .slice A13 a0.Tri.length cp14], .blk b19 61 [.int .u8 a4.a0, .int .u8 a4.a1, .int .u8 a4.a2, .int .u8 a4.a3], .blk b21 25 [.int .i64 v24.1.Frame.W, .int .i64 v24.1.Frame.H, .slice A_row29_1 l_row29_1.length c_row29_1, .slice A31 v24.1.Frame.Depth.length cp32, .slice A36 v24.1.Frame.Item.length cp37, .slice A41 v24.1.Frame.Tri.length cp42], .hole, .row (.slice A31 v24.1.Frame.Depth.length cp32) 3 kInt.sz v24.1.Frame.Depth.length cs33, .row (.slice A36 v24.1.Frame.Item.length cp37) 3 kInt.sz v24.1.Frame.Item.length cs38, .row (.slice A41 v24.1.Frame.Tri.length cp42) 3 kInt.sz v24.1.Frame.Tri.length cs43, .blk b46 121 [.int .i64 v24.1.Frame.W, .int .i64 v24.1.Frame.H, .slice A_row29_1 l_row29_1.length c_row29_1, .slice A31 v24.1.Frame.Depth.length cp32, .slice A36 v24.1.Frame.Item.length cp37, .slice A41 v24.1.Frame.Tri.length cp42]] [RE.rd k_Ar4_Int A1 cp2 a0.Color, RE.rd kInt A5 cp6 a0.Depth, RE.rd kInt A9 cp10 a0.Item, RE.rd kInt A13 cp14 a0.Tri, RE.rd k_Ar4_Int A_row29_1 c_row29_1 l_row29_1, RE.chunks kInt cs33 v24.1.Frame.Depth, RE.chunks kInt cs38 v24.1.Frame.Item, RE.chunks kInt cs43 v24.1.Frame.Tri] := H.frozen (i := 3) (j := 4) (by rfl) (by rfl)
    have H : Sep ok w w100 [.blk b17 25 [.int .i64 a0.W, .int .i64 a0.H, .slice A1 a0.Color.length cp2, .slice A5 a0.Depth.length cp6, .slice A9 a0.Item.length cp10, .slice A13 a0.Tri.length cp14], .blk b19 61 [.int .u8 a4.a0, .int .u8 a4.a1, .int .u8 a4.a2, .int .u8 a4.a3], .blk b21 25 [.int .i64 v24.1.Frame.W, .int .i64 v24.1.Frame.H, .slice A_row29_1 l_row29_1.length c_row29_1, .slice A31 v24.1.Frame.Depth.length cp32, .slice A36 v24.1.Frame.Item.length cp37, .slice A41 v24.1.Frame.Tri.length cp42], .hole, .hole, .row (.slice A36 v24.1.Frame.Item.length cp37) 3 kInt.sz v24.1.Frame.Item.length cs38, .row (.slice A41 v24.1.Frame.Tri.length cp42) 3 kInt.sz v24.1.Frame.Tri.length cs43, .blk b46 121 [.int .i64 v24.1.Frame.W, .int .i64 v24.1.Frame.H, .slice A_row29_1 l_row29_1.length c_row29_1, .slice A31 v24.1.Frame.Depth.length cp32, .slice A36 v24.1.Frame.Item.length cp37, .slice A41 v24.1.Frame.Tri.length cp42]] [RE.rd k_Ar4_Int A1 cp2 a0.Color, RE.rd kInt A5 cp6 a0.Depth, RE.rd kInt A9 cp10 a0.Item, RE.rd kInt A13 cp14 a0.Tri, RE.rd k_Ar4_Int A_row29_1 c_row29_1 l_row29_1, RE.rd kInt A31 cp32 v24.1.Frame.Depth, RE.chunks kInt cs38 v24.1.Frame.Item, RE.chunks kInt cs43 v24.1.Frame.Tri] := H.frozen (i := 4) (j := 5) (by rfl) (by rfl)
    have H : Sep ok w w100 [.blk b17 25 [.int .i64 a0.W, .int .i64 a0.H, .slice A1 a0.Color.length cp2, .slice A5 a0.Depth.length cp6, .slice A9 a0.Item.length cp10, .slice A13 a0.Tri.length cp14], .blk b19 61 [.int .u8 a4.a0, .int .u8 a4.a1, .int .u8 a4.a2, .int .u8 a4.a3], .blk b21 25 [.int .i64 v24.1.Frame.W, .int .i64 v24.1.Frame.H, .slice A_row29_1 l_row29_1.length c_row29_1, .slice A31 v24.1.Frame.Depth.length cp32, .slice A36 v24.1.Frame.Item.length cp37, .slice A41 v24.1.Frame.Tri.length cp42], .hole, .hole, .hole, .row (.slice A41 v24.1.Frame.Tri.length cp42) 3 kInt.sz v24.1.Frame.Tri.length cs43, .blk b46 121 [.int .i64 v24.1.Frame.W, .int .i64 v24.1.Frame.H, .slice A_row29_1 l_row29_1.length c_row29_1, .slice A31 v24.1.Frame.Depth.length cp32, .slice A36 v24.1.Frame.Item.length cp37, .slice A41 v24.1.Frame.Tri.length cp42]] [RE.rd k_Ar4_Int A1 cp2 a0.Color, RE.rd kInt A5 cp6 a0.Depth, RE.rd kInt A9 cp10 a0.Item, RE.rd kInt A13 cp14 a0.Tri, RE.rd k_Ar4_Int A_row29_1 c_row29_1 l_row29_1, RE.rd kInt A31 cp32 v24.1.Frame.Depth, RE.rd kInt A36 cp37 v24.1.Frame.Item, RE.chunks kInt cs43 v24.1.Frame.Tri] := H.frozen (i := 5) (j := 6) (by rfl) (by rfl)
    have H : Sep ok w w100 [.blk b17 25 [.int .i64 a0.W, .int .i64 a0.H, .slice A1 a0.Color.length cp2, .slice A5 a0.Depth.length cp6, .slice A9 a0.Item.length cp10, .slice A13 a0.Tri.length cp14], .blk b19 61 [.int .u8 a4.a0, .int .u8 a4.a1, .int .u8 a4.a2, .int .u8 a4.a3], .blk b21 25 [.int .i64 v24.1.Frame.W, .int .i64 v24.1.Frame.H, .slice A_row29_1 l_row29_1.length c_row29_1, .slice A31 v24.1.Frame.Depth.length cp32, .slice A36 v24.1.Frame.Item.length cp37, .slice A41 v24.1.Frame.Tri.length cp42], .hole, .hole, .hole, .hole, .blk b46 121 [.int .i64 v24.1.Frame.W, .int .i64 v24.1.Frame.H, .slice A_row29_1 l_row29_1.length c_row29_1, .slice A31 v24.1.Frame.Depth.length cp32, .slice A36 v24.1.Frame.Item.length cp37, .slice A41 v24.1.Frame.Tri.length cp42]] [RE.rd k_Ar4_Int A1 cp2 a0.Color, RE.rd kInt A5 cp6 a0.Depth, RE.rd kInt A9 cp10 a0.Item, RE.rd kInt A13 cp14 a0.Tri, RE.rd k_Ar4_Int A_row29_1 c_row29_1 l_row29_1, RE.rd kInt A31 cp32 v24.1.Frame.Depth, RE.rd kInt A36 cp37 v24.1.Frame.Item, RE.rd kInt A41 cp42 v24.1.Frame.Tri] := H.frozen (i := 6) (j := 7) (by rfl) (by rfl)
    obtain rfl := Option.some.inj hm
    exact ⟨[.agg #[.int .i64 v24.1.Frame.W, .int .i64 v24.1.Frame.H, .slice A_row29_1 l_row29_1.length c_row29_1, .slice A31 v24.1.Frame.Depth.length cp32, .slice A36 v24.1.Frame.Item.length cp37, .slice A41 v24.1.Frame.Tri.length cp42], .int .i64 0], (.cellA (by rfl) ag25 (H.cells (i := 2) (by rfl)) (by rfl) (.tmp (by rfl) rfl)), A_row29_1, c_row29_1, A31, cp32, A36, cp37, A41, cp42, rfl, (H.forgetAll).pick [4, 5, 6, 7]⟩
end Go.Proofs.YtobkigllalbkiaaV.M

/- A plain Lean function that answers as the Go function does (none: not told), and the proof that a call answers so. Written by program. -/
set_option linter.unusedVariables false
namespace Go.Proofs.YtobkigllalbkiaaV.M
open Go.RowKit Go.Proofs.YtobkigllalbkiaaV
def m77_l1b (K : Nat) (a0 : (List (Ar4 Int))) (a1 : (List (Ar4 Int))) (rec1 : Int → Option (Bool)) (y13_1 : Int) : Option (Bool) :=
 (bif (decide (y13_1 < (a0.length : Int))) then (idx a0 y13_1 fun el12 => (idx a1 y13_1 fun el19 => (bif (!((el12.a0 == el19.a0) && ((el12.a1 == el19.a1) && ((el12.a2 == el19.a2) && (el12.a3 == el19.a3))))) then some false else (ck (y13_1 + 1) fun x26 => (rec1 x26))))) else some true)
def m77_l1 (K : Nat) (a0 : (List (Ar4 Int))) (a1 : (List (Ar4 Int))) : Nat → Int → Option (Bool)
 | 0 => fun _ => none
 | k + 1 => m77_l1b K a0 a1 (m77_l1 K a0 a1 k)
/-- slices.Equal(()diorama/api.Color,diorama/api.Color) -/
def m77 (K : Nat) (a0 : (List (Ar4 Int))) (a1 : (List (Ar4 Int))) : Option (Bool) :=
 (bif ((a0.length : Int) != (a1.length : Int)) then some false else m77_l1 K a0 a1 K 0)
set_option maxRecDepth 100000 in
set_option maxHeartbeats 4000000 in
theorem c77 (ok : Nat → Prop) (K : Nat) (w : World) (a0 : (List (Ar4 Int))) (A1 : Option Addr) (cp2 : Nat) (a1 : (List (Ar4 Int))) (A5 : Option Addr) (cp6 : Nat) (hR3 : Rd k_Ar4_Int w ok A1 cp2 a0) (hR7 : Rd k_Ar4_Int w ok A5 cp6 a1) (res : Bool) (hm : m77 K a0 a1 = some res) :
  Calls Try.prog 77 #[.slice A1 a0.length cp2, .slice A5 a1.length cp6] w (fun e w' => e = .returned (tup [.bool res]) ∧ Sep ok w w' [] []) := by
 refine calls_W (args := [.slice A1 a0.length cp2, .slice A5 a1.length cp6]) Try.func77 rfl Try.ntmps77 Try.results77 rfl fun r hr => ?_
 obtain ⟨r1, rfl⟩ := regen (r := r) [(0, .slice A1 a0.length cp2), (1, .slice A5 a1.length cp6)] ⟨hr 0 _ rfl, hr 1 _ rfl, trivial⟩
 have H : Sep ok w w [] [RE.rd k_Ar4_Int A1 cp2 a0, RE.rd k_Ar4_Int A5 cp6 a1] := Sep.arg (Sep.arg (Sep.start ok w) (re := RE.rd k_Ar4_Int A1 cp2 a0) rfl rfl hR3) (re := RE.rd k_Ar4_Int A5 cp6 a1) rfl rfl hR7
 unfold m77 at hm
 refine W_seq ?_
 refine W_region ?_
 refine RL_pure (by exact wn0 rfl) (by rfl) (by rfl) (x_assign (v := .bool false) (by rfl)) ?_
 refine RL_nil ?_
 refine W_seq ?_
 refine W_seq ?_
 refine W_region ?_
 refine RL_pure (by exact wn0 rfl) (by rfl) (by rfl) (x_move (v := .slice A1 a0.length cp2) (by rfl)) ?_
 refine RL_pure (by exact wn0 rfl) (by rfl) (by rfl) (x_len sl22 (by rfl)) ?_
 refine RL_pure (by exact wn0 rfl) (by rfl) (by rfl) (x_move (v := .slice A5 a1.length cp6) (by rfl)) ?_
 refine RL_pure (by exact wn0 rfl) (by rfl) (by rfl) (x_len sl22 (by rfl)) ?_
 refine RL_pure (by exact wn0 rfl) (by rfl) (by rfl) (x_neq (by rfl) (by rfl)) ?_
 refine RL_nil ?_
 refine W_cond (by rfl) (fun hb => ?_) (fun hb => ?_)
 ·have hm := cond_t hb hm
  refine W_seq ?_
  refine W_region ?_
  refine RL_pure (by exact wn0 rfl) (by rfl) (by rfl) (x_assign (v := .bool false) (by rfl)) ?_
  refine RL_nil ?_
  refine W_ret ?_
  obtain rfl := Option.some.inj hm
  exact ⟨[.bool false], (.tmp (by rfl) rfl), rfl, H.none_⟩
 ·have hm := cond_f hb hm
  refine W_skip ?_
  refine W_seq ?_
  refine W_seq ?_
  refine W_region ?_
  refine RL_pure (by exact wn0 rfl) (by rfl) (by rfl) (x_move (v := .slice A1 a0.length cp2) (by rfl)) ?_
  refine RL_pure (by exact wn0 rfl) (by rfl) (by rfl) (x_len sl22 (by rfl)) ?_
  refine RL_pure (by exact wn0 rfl) (by rfl) (by rfl) (x_move (v := .int .i64 0) (by rfl)) ?_
  refine RL_nil ?_
  refine W_block ?_
  refine W_loop (fun k1 r' w' => ∃ (y13_1 : Int), m77_l1 K a0 a1 k1 y13_1 = some res ∧ Agr [(0, .slice A1 a0.length cp2), (1, .slice A5 a1.length cp6), (12, .int .i64 (a0.length : Int)), (13, .int .i64 y13_1)] r' ∧ Sep ok w w' [] [RE.rd k_Ar4_Int A1 cp2 a0, RE.rd k_Ar4_Int A5 cp6 a1]) K ?_ ?_
  ·exact ⟨0, hm, ⟨rfl, rfl, rfl, rfl, trivial⟩, H⟩
  ·rintro k1 r' w' ⟨y13_1, hm, hA, H⟩
   obtain ⟨r9, rfl⟩ := regen _ hA; clear hA
   obtain ⟨w10, rfl⟩ : ∃ W : World, W = w' := ⟨_, rfl⟩
   cases k1 with
   | zero => exact (none_some hm).elim
   | succ k1 =>
    have hm : m77_l1b K a0 a1 (m77_l1 K a0 a1 k1) y13_1 = some res := hm
    unfold m77_l1b at hm
    obtain ⟨rec1, hrec1⟩ : ∃ f, m77_l1 K a0 a1 k1 = f := ⟨_, rfl⟩
    rw [hrec1] at hm
    refine W_seq ?_
    refine W_region ?_
    refine RL_pure (by exact wn0 rfl) (by rfl) (by rfl) (x_lss (by rfl) (by rfl)) ?_
    refine RL_nil ?_
    refine W_seq ?_
    refine W_cond (by rfl) (fun hb => ?_) (fun hb => ?_)
    ·have hm := cond_t hb hm
     refine W_skip ?_
     refine W_seq ?_
     refine W_block ?_
     refine W_seq ?_
     refine W_region ?_
     refine RL_pure (by exact wn0 rfl) (by rfl) (by rfl) (x_move (v := .int .i64 y13_1) (by rfl)) ?_
     refine RL_pure (by exact wn0 rfl) (by rfl) (by rfl) (x_assign (v := .int .i64 y13_1) (by rfl)) ?_
     refine RL_nil ?_
     refine W_seq ?_
     refine W_draw [.free 0, .free 1, .free 2, .take 3, .free 4, .free 5, .free 6, .take 7, .free 8] (fun wS => Sep ok w wS [] [RE.rd k_Ar4_Int A1 cp2 a0, RE.rd k_Ar4_Int A5 cp6 a1]) [] [0, 1, 2, 4, 5, 6, 8] mixed0 (by kernel_rfl) (by kernel_rfl) (by kernel_rfl) (by rfl) (by exact H.drew) ?_
     obtain ⟨w11, hW⟩ : ∃ W : World, W = { w10 with drawn := w10.drawn + 1 } := ⟨_, rfl⟩
     rw [← hW]
     have H : Sep ok w w11 [] [RE.rd k_Ar4_Int A1 cp2 a0, RE.rd k_Ar4_Int A5 cp6 a1] := by rw [hW]; exact H.drew
     clear hW
     refine PR_free (by rfl) (by rfl) (by rfl) (by exact wn0 rfl) (fun wS => (x_move (v := .slice A1 a0.length cp2) (by rfl))) ?_
     refine PR_free (by rfl) (by rfl) (by rfl) (by exact wn0 rfl) (fun wS => (x_move (v := .int .i64 y13_1) (by rfl))) ?_
     obtain ⟨el12, h13, h14, he15, hm⟩ := idx_some hm
     obtain ⟨g17, o18, hA16⟩ := (H.rd (i := 0) (by rfl)).addr he15
     refine PR_free (by rfl) (by rfl) (by rfl) (by exact wn0 rfl) (fun wS => (x_indexAddr sl22 sz61 (by rfl) (by rfl) hA16 h13 h14)) ?_
     refine PR_take (by rfl) (by rfl) (by rfl) (by exact wn0 rfl) (fun wS (H : Sep ok w wS [] [RE.rd k_Ar4_Int A1 cp2 a0, RE.rd k_Ar4_Int A5 cp6 a1]) => (x_loadA (j := 0) (vs := [.int .u8 el12.a0, .int .u8 el12.a1, .int .u8 el12.a2, .int .u8 el12.a3]) ag61 (by rfl) (Rd.flatAt (n := 4) (H.rd (i := 0) (by rfl)) hA16 he15) (by rfl) (by rfl))) ?_
     refine PR_free (by rfl) (by rfl) (by rfl) (by exact wn0 rfl) (fun wS => (x_move (v := .slice A5 a1.length cp6) (by rfl))) ?_
     refine PR_free (by rfl) (by rfl) (by rfl) (by exact wn0 rfl) (fun wS => (x_move (v := .int .i64 y13_1) (by rfl))) ?_
     obtain ⟨el19, h20, h21, he22, hm⟩ := idx_some hm
     obtain ⟨g24, o25, hA23⟩ := (H.rd (i := 1) (by rfl)).addr he22
     refine PR_free (by rfl) (by rfl) (by rfl) (by exact wn0 rfl) (fun wS => (x_indexAddr sl22 sz61 (by rfl) (by rfl) hA23 h20 h21)) ?_
     refine PR_take (by rfl) (by rfl) (by rfl) (by exact wn0 rfl) (fun wS (H : Sep ok w wS [] [RE.rd k_Ar4_Int A1 cp2 a0, RE.rd k_Ar4_Int A5 cp6 a1]) => (x_loadA (j := 0) (vs := [.int .u8 el19.a0, .int .u8 el19.a1, .int .u8 el19.a2, .int .u8 el19.a3]) ag61 (by rfl) (Rd.flatAt (n := 4) (H.rd (i := 1) (by rfl)) hA23 he22) (by rfl) (by rfl))) ?_
     refine PR_free (by rfl) (by rfl) (by rfl) (by exact wn0 rfl) (fun wS => (x_neqsArr ep61 eg61 (by rfl) (by rfl) (b := ((el12.a0 == el19.a0) && ((el12.a1 == el19.a1) && ((el12.a2 == el19.a2) && (el12.a3 == el19.a3))))) (by rfl))) ?_
     refine PR_nil ?_
     refine W_cond (by rfl) (fun hb => ?_) (fun hb => ?_)
     ·have hm := cond_t hb hm
      refine W_seq ?_
      refine W_region ?_
      refine RL_pure (by exact wn0 rfl) (by rfl) (by rfl) (x_assign (v := .bool false) (by rfl)) ?_
      refine RL_nil ?_
      refine W_ret ?_
      obtain rfl := Option.some.inj hm
      exact ⟨[.bool false], (.tmp (by rfl) rfl), rfl, H.none_⟩
     ·have hm := cond_f hb hm
      refine W_skip ?_
      refine W_region ?_
      obtain ⟨x26, ex26, qx26, ux26, hm⟩ := ck_some hm
      refine RL_pure (by exact wn0 rfl) (by rfl) (by rfl) (x_add (by rfl) (by rfl) ux26) ?_
      refine RL_pure (by exact wn0 rfl) (by rfl) (by rfl) (x_move (v := .int .i64 x26) (by rfl)) ?_
      refine RL_nil ?_
      subst hrec1
      exact ⟨k1, Nat.lt_succ_self k1, x26, hm, ⟨rfl, rfl, rfl, rfl, trivial⟩, H⟩
    ·have hm := cond_f hb hm
     refine W_exit ?_
     refine W_seq ?_
     refine W_region ?_
     refine RL_pure (by exact wn0 rfl) (by rfl) (by rfl) (x_assign (v := .bool true) (by rfl)) ?_
     refine RL_nil ?_
     refine W_ret ?_
     obtain rfl := Option.some.inj hm
     exact ⟨[.bool true], (.tmp (by rfl) rfl), rfl, H.none_⟩
end Go.Proofs.YtobkigllalbkiaaV.M

/- A plain Lean function that answers as the Go function does (none: not told), and the proof that a call answers so. Written by program. -/
set_option linter.unusedVariables false
namespace Go.Proofs.YtobkigllalbkiaaV.M
open Go.RowKit Go.Proofs.YtobkigllalbkiaaV
/-- diorama/frame.Same -/
def m32 (K : Nat) (a0 : S_Frame) (a1 : S_Frame) : Option (Bool) :=
 ((bif (a0.W == a1.W) then some (a0.H == a1.H) else some false).bind fun b37 => ((bif b37 then ((m77 K a0.Color a1.Color).bind fun v42 => some v42) else some false).bind fun b40 => ((bif b40 then ((m78 K a0.Depth a1.Depth).bind fun v48 => some v48) else some false).bind fun b46 => ((bif b46 then ((m78 K a0.Item a1.Item).bind fun v54 => some v54) else some false).bind fun b52 => ((bif b52 then ((m78 K a0.Tri a1.Tri).bind fun v60 => some v60) else some false).bind fun b58 => some b58)))))
set_option maxRecDepth 100000 in
set_option maxHeartbeats 4000000 in
theorem c32 (ok : Nat → Prop) (K : Nat) (w : World) (a0 : S_Frame) (A1 : Option Addr) (cp2 : Nat) (A5 : Option Addr) (cp6 : Nat) (A9 : Option Addr) (cp10 : Nat) (A13 : Option Addr) (cp14 : Nat) (a1 : S_Frame) (A17 : Option Addr) (cp18 : Nat) (A21 : Option Addr) (cp22 : Nat) (A25 : Option Addr) (cp26 : Nat) (A29 : Option Addr) (cp30 : Nat) (hR3 : Rd k_Ar4_Int w ok A1 cp2 a0.Color) (hR7 : Rd kInt w ok A5 cp6 a0.Depth) (hR11 : Rd kInt w ok A9 cp10 a0.Item) (hR15 : Rd kInt w ok A13 cp14 a0.Tri) (hR19 : Rd k_Ar4_Int w ok A17 cp18 a1.Color) (hR23 : Rd kInt w ok A21 cp22 a1.Depth) (hR27 : Rd kInt w ok A25 cp26 a1.Item) (hR31 : Rd kInt w ok A29 cp30 a1.Tri) (res : Bool) (hm : m32 K a0 a1 = some res) :
  Calls Try.prog 32 #[.agg #[.int .i64 a0.W, .int .i64 a0.H, .slice A1 a0.Color.length cp2, .slice A5 a0.Depth.length cp6, .slice A9 a0.Item.length cp10, .slice A13 a0.Tri.length cp14], .agg #[.int .i64 a1.W, .int .i64 a1.H, .slice A17 a1.Color.length cp18, .slice A21 a1.Depth.length cp22, .slice A25 a1.Item.length cp26, .slice A29 a1.Tri.length cp30]] w (fun e w' => e = .returned (tup [.bool res]) ∧ Sep ok w w' [] []) := by
 refine calls_W (args := [.agg #[.int .i64 a0.W, .int .i64 a0.H, .slice A1 a0.Color.length cp2, .slice A5 a0.Depth.length cp6, .slice A9 a0.Item.length cp10, .slice A13 a0.Tri.length cp14], .agg #[.int .i64 a1.W, .int .i64 a1.H, .slice A17 a1.Color.length cp18, .slice A21 a1.Depth.length cp22, .slice A25 a1.Item.length cp26, .slice A29 a1.Tri.length cp30]]) Try.func32 rfl Try.ntmps32 Try.results32 rfl fun r hr => ?_
 obtain ⟨r1, rfl⟩ := regen (r := r) [(0, .agg #[.int .i64 a0.W, .int .i64 a0.H, .slice A1 a0.Color.length cp2, .slice A5 a0.Depth.length cp6, .slice A9 a0.Item.length cp10, .slice A13 a0.Tri.length cp14]), (1, .agg #[.int .i64 a1.W, .int .i64 a1.H, .slice A17 a1.Color.length cp18, .slice A21 a1.Depth.length cp22, .slice A25 a1.Item.length cp26, .slice A29 a1.Tri.length cp30])] ⟨hr 0 _ rfl, hr 1 _ rfl, trivial⟩
 have H : Sep ok w w [] [RE.rd k_Ar4_Int A1 cp2 a0.Color, RE.rd kInt A5 cp6 a0.Depth, RE.rd kInt A9 cp10 a0.Item, RE.rd kInt A13 cp14 a0.Tri, RE.rd k_Ar4_Int A17 cp18 a1.Color, RE.rd kInt A21 cp22 a1.Depth, RE.rd kInt A25 cp26 a1.Item, RE.rd kInt A29 cp30 a1.Tri] := Sep.arg (Sep.arg (Sep.arg (Sep.arg (Sep.arg (Sep.arg (Sep.arg (Sep.arg (Sep.start ok w) (re := RE.rd k_Ar4_Int A1 cp2 a0.Color) rfl rfl hR3) (re := RE.rd kInt A5 cp6 a0.Depth) rfl rfl hR7) (re := RE.rd kInt A9 cp10 a0.Item) rfl rfl hR11) (re := RE.rd kInt A13 cp14 a0.Tri) rfl rfl hR15) (re := RE.rd k_Ar4_Int A17 cp18 a1.Color) rfl rfl hR19) (re := RE.rd kInt A21 cp22 a1.Depth) rfl rfl hR23) (re := RE.rd kInt A25 cp26 a1.Item) rfl rfl hR27) (re := RE.rd kInt A29 cp30 a1.Tri) rfl rfl hR31
 unfold m32 at hm
 refine W_seq ?_
 refine W_region ?_
 refine RL_cons (O_box (by exact wn0 rfl) (by rfl) (by rfl) (by rfl) H (fun w34 b33 (H : Sep ok w w34 [.blk b33 25 [.int .i64 a0.W, .int .i64 a0.H, .slice A1 a0.Color.length cp2, .slice A5 a0.Depth.length cp6, .slice A9 a0.Item.length cp10, .slice A13 a0.Tri.length cp14]] [RE.rd k_Ar4_Int A1 cp2 a0.Color, RE.rd kInt A5 cp6 a0.Depth, RE.rd kInt A9 cp10 a0.Item, RE.rd kInt A13 cp14 a0.Tri, RE.rd k_Ar4_Int A17 cp18 a1.Color, RE.rd kInt A21 cp22 a1.Depth, RE.rd kInt A25 cp26 a1.Item, RE.rd kInt A29 cp30 a1.Tri]) => ?_))
 refine RL_cons (O_box (by exact wn0 rfl) (by rfl) (by rfl) (by rfl) H (fun w36 b35 (H : Sep ok w w36 [.blk b33 25 [.int .i64 a0.W, .int .i64 a0.H, .slice A1 a0.Color.length cp2, .slice A5 a0.Depth.length cp6, .slice A9 a0.Item.length cp10, .slice A13 a0.Tri.length cp14], .blk b35 25 [.int .i64 a1.W, .int .i64 a1.H, .slice A17 a1.Color.length cp18, .slice A21 a1.Depth.length cp22, .slice A25 a1.Item.length cp26, .slice A29 a1.Tri.length cp30]] [RE.rd k_Ar4_Int A1 cp2 a0.Color, RE.rd kInt A5 cp6 a0.Depth, RE.rd kInt A9 cp10 a0.Item, RE.rd kInt A13 cp14 a0.Tri, RE.rd k_Ar4_Int A17 cp18 a1.Color, RE.rd kInt A21 cp22 a1.Depth, RE.rd kInt A25 cp26 a1.Item, RE.rd kInt A29 cp30 a1.Tri]) => ?_))
 refine RL_pure (by exact wn0 rfl) (by rfl) (by rfl) (x_assign (v := .bool false) (by rfl)) ?_
 refine RL_nil ?_
 refine W_seq ?_
 refine W_region ?_
 refine RL_pure (by exact wn0 rfl) (by rfl) (by rfl) (x_fieldAddr fo25_0 (by rfl)) ?_
 refine RL_pure (by exact wn0 rfl) (by rfl) (by rfl) (x_load (j := 0) (v := .int .i64 a0.W) sc3 (by rfl) (H.cells (i := 0) (by rfl)) (by rfl)) ?_
 refine RL_pure (by exact wn0 rfl) (by rfl) (by rfl) (x_fieldAddr fo25_0 (by rfl)) ?_
 refine RL_pure (by exact wn0 rfl) (by rfl) (by rfl) (x_load (j := 0) (v := .int .i64 a1.W) sc3 (by rfl) (H.cells (i := 1) (by rfl)) (by rfl)) ?_
 refine RL_pure (by exact wn0 rfl) (by rfl) (by rfl) (x_eql (by rfl) (by rfl)) ?_
 refine RL_pure (by exact wn0 rfl) (by rfl) (by rfl) (x_move (v := .bool (a0.W == a1.W)) (by rfl)) ?_
 obtain ⟨b37, hmS, hm⟩ := bind_some hm
 refine RL_cut 6 (fun r' w' => Agr [(16, .bool b37), (2, .pointer (some ⟨b33, 0, none⟩)), (3, .pointer (some ⟨b35, 0, none⟩))] r' ∧ Sep ok w w' [.blk b33 25 [.int .i64 a0.W, .int .i64 a0.H, .slice A1 a0.Color.length cp2, .slice A5 a0.Depth.length cp6, .slice A9 a0.Item.length cp10, .slice A13 a0.Tri.length cp14], .blk b35 25 [.int .i64 a1.W, .int .i64 a1.H, .slice A17 a1.Color.length cp18, .slice A21 a1.Depth.length cp22, .slice A25 a1.Item.length cp26, .slice A29 a1.Tri.length cp30]] [RE.rd k_Ar4_Int A1 cp2 a0.Color, RE.rd kInt A5 cp6 a0.Depth, RE.rd kInt A9 cp10 a0.Item, RE.rd kInt A13 cp14 a0.Tri, RE.rd k_Ar4_Int A17 cp18 a1.Color, RE.rd kInt A21 cp22 a1.Depth, RE.rd kInt A25 cp26 a1.Item, RE.rd kInt A29 cp30 a1.Tri]) ?_ ?_
 ·cases hbS : (a0.W == a1.W)
  ·have hm := cond_f hbS hmS
   refine RL_cons (OpR_off (by exact wn2 rfl rfl rfl rfl) (by rfl) (by rfl) ?_)
   refine RL_cons (OpR_off (by exact wn2 rfl rfl rfl rfl) (by rfl) (by rfl) ?_)
   refine RL_cons (OpR_off (by exact wn2 rfl rfl rfl rfl) (by rfl) (by rfl) ?_)
   refine RL_cons (OpR_off (by exact wn2 rfl rfl rfl rfl) (by rfl) (by rfl) ?_)
   refine RL_cons (OpR_off (by exact wn2 rfl rfl rfl rfl) (by rfl) (by rfl) ?_)
   refine RL_pure (by exact wn0 rfl) (by rfl) (by rfl) (x_pick_f (v := .bool false) (by rfl) (by rfl)) ?_
   refine RL_nil ?_
   exact ⟨⟨congrArg Value.bool (Option.some.inj hm), rfl, rfl, trivial⟩, H⟩
  ·have hm := cond_t hbS hmS
   refine RL_pure (by exact wn1 rfl rfl rfl rfl) (by rfl) (by rfl) (x_fieldAddr fo25_1 (by rfl)) ?_
   refine RL_pure (by exact wn1 rfl rfl rfl rfl) (by rfl) (by rfl) (x_load (j := 1) (v := .int .i64 a0.H) sc3 (by rfl) (H.cells (i := 0) (by rfl)) (by rfl)) ?_
   refine RL_pure (by exact wn1 rfl rfl rfl rfl) (by rfl) (by rfl) (x_fieldAddr fo25_1 (by rfl)) ?_
   refine RL_pure (by exact wn1 rfl rfl rfl rfl) (by rfl) (by rfl) (x_load (j := 1) (v := .int .i64 a1.H) sc3 (by rfl) (H.cells (i := 1) (by rfl)) (by rfl)) ?_
   refine RL_pure (by exact wn1 rfl rfl rfl rfl) (by rfl) (by rfl) (x_eql (by rfl) (by rfl)) ?_
   refine RL_pure (by exact wn0 rfl) (by rfl) (by rfl) (x_pick_t (v := .bool (a0.H == a1.H)) (by rfl) (by rfl)) ?_
   refine RL_nil ?_
   exact ⟨⟨congrArg Value.bool (Option.some.inj hm), rfl, rfl, trivial⟩, H⟩
 ·rintro r' w' ⟨hA, H⟩
  obtain ⟨r38, rfl⟩ := regen _ hA; clear hA
  obtain ⟨w39, rfl⟩ : ∃ W : World, W = w' := ⟨_, rfl⟩
  show RL _ _ _ _ _ _ _
  refine RL_pure (by exact wn0 rfl) (by rfl) (by rfl) (x_move (v := .bool b37) (by rfl)) ?_
  obtain ⟨b40, hmS, hm⟩ := bind_some hm
  refine RL_cut 6 (fun r' w' => Agr [(23, .bool b40), (2, .pointer (some ⟨b33, 0, none⟩)), (3, .pointer (some ⟨b35, 0, none⟩))] r' ∧ Sep ok w w' [.blk b33 25 [.int .i64 a0.W, .int .i64 a0.H, .slice A1 a0.Color.length cp2, .slice A5 a0.Depth.length cp6, .slice A9 a0.Item.length cp10, .slice A13 a0.Tri.length cp14], .blk b35 25 [.int .i64 a1.W, .int .i64 a1.H, .slice A17 a1.Color.length cp18, .slice A21 a1.Depth.length cp22, .slice A25 a1.Item.length cp26, .slice A29 a1.Tri.length cp30]] [RE.rd k_Ar4_Int A1 cp2 a0.Color, RE.rd kInt A5 cp6 a0.Depth, RE.rd kInt A9 cp10 a0.Item, RE.rd kInt A13 cp14 a0.Tri, RE.rd k_Ar4_Int A17 cp18 a1.Color, RE.rd kInt A21 cp22 a1.Depth, RE.rd kInt A25 cp26 a1.Item, RE.rd kInt A29 cp30 a1.Tri]) ?_ ?_
  ·cases hbS : b37
   ·have hm := cond_f hbS hmS
    refine RL_cons (OpR_off (by exact wn2 rfl rfl rfl rfl) (by rfl) (by rfl) ?_)
    refine RL_cons (OpR_off (by exact wn2 rfl rfl rfl rfl) (by rfl) (by rfl) ?_)
    refine RL_cons (OpR_off (by exact wn2 rfl rfl rfl rfl) (by rfl) (by rfl) ?_)
    refine RL_cons (OpR_off (by exact wn2 rfl rfl rfl rfl) (by rfl) (by rfl) ?_)
    refine RL_cons (OpR_off (by exact wn2 rfl rfl rfl rfl) (by rfl) (by rfl) ?_)
    refine RL_pure (by exact wn0 rfl) (by rfl) (by rfl) (x_pick_f (v := .bool false) (by rfl) (by rfl)) ?_
    refine RL_nil ?_
    exact ⟨⟨congrArg Value.bool (Option.some.inj hm), rfl, rfl, trivial⟩, H⟩
   ·have hm := cond_t hbS hmS
    refine RL_pure (by exact wn1 rfl rfl rfl rfl) (by rfl) (by rfl) (x_fieldAddr fo25_2 (by rfl)) ?_
    refine RL_pure (by exact wn1 rfl rfl rfl rfl) (by rfl) (by rfl) (x_load (j := 2) (v := .slice A1 a0.Color.length cp2) sc22 (by rfl) (H.cells (i := 0) (by rfl)) (by rfl)) ?_
    refine RL_pure (by exact wn1 rfl rfl rfl rfl) (by rfl) (by rfl) (x_fieldAddr fo25_2 (by rfl)) ?_
    refine RL_pure (by exact wn1 rfl rfl rfl rfl) (by rfl) (by rfl) (x_load (j := 2) (v := .slice A17 a1.Color.length cp18) sc22 (by rfl) (H.cells (i := 1) (by rfl)) (by rfl)) ?_
    obtain ⟨v42, hv41, hm⟩ := bind_some hm
    refine RL_cons (O_call (by exact wn1 rfl rfl rfl rfl) (by rfl) (by rfl) (x_callL (by rfl) (args := [.slice A1 a0.Color.length cp2, .slice A17 a1.Color.length cp18]) (by rfl) (cf77 _ _)) (c77 (fun _ => True) K w39 a0.Color A1 cp2 a1.Color A17 cp18 (H.rd (i := 0) (by rfl)).any (H.rd (i := 4) (by rfl)).any v42 hv41) ?_)
    rintro e w43 ⟨rfl, H2⟩
    have H : Sep ok w w43 [.blk b33 25 [.int .i64 a0.W, .int .i64 a0.H, .slice A1 a0.Color.length cp2, .slice A5 a0.Depth.length cp6, .slice A9 a0.Item.length cp10, .slice A13 a0.Tri.length cp14], .blk b35 25 [.int .i64 a1.W, .int .i64 a1.H, .slice A17 a1.Color.length cp18, .slice A21 a1.Depth.length cp22, .slice A25 a1.Item.length cp26, .slice A29 a1.Tri.length cp30]] [RE.rd k_Ar4_Int A1 cp2 a0.Color, RE.rd kInt A5 cp6 a0.Depth, RE.rd kInt A9 cp10 a0.Item, RE.rd kInt A13 cp14 a0.Tri, RE.rd k_Ar4_Int A17 cp18 a1.Color, RE.rd kInt A21 cp22 a1.Depth, RE.rd kInt A25 cp26 a1.Item, RE.rd kInt A29 cp30 a1.Tri] := H.below H2.base
    clear H2
    refine ⟨_, rfl, ?_⟩
    show RL _ _ _ _ _ _ _
    refine RL_pure (by exact wn0 rfl) (by rfl) (by rfl) (x_pick_t (v := .bool v42) (by rfl) (by rfl)) ?_
    refine RL_nil ?_
    exact ⟨⟨congrArg Value.bool (Option.some.inj hm), rfl, rfl, trivial⟩, H⟩
  ·rintro r' w' ⟨hA, H⟩
   obtain ⟨r44, rfl⟩ := regen _ hA; clear hA
   obtain ⟨w45, rfl⟩ : ∃ W : World, W = w' := ⟨_, rfl⟩
   show RL _ _ _ _ _ _ _
   refine RL_pure (by exact wn0 rfl) (by rfl) (by rfl) (x_move (v := .bool b40) (by rfl)) ?_
   obtain ⟨b46, hmS, hm⟩ := bind_some hm
   refine RL_cut 6 (fun r' w' => Agr [(30, .bool b46), (2, .pointer (some ⟨b33, 0, none⟩)), (3, .pointer (some ⟨b35, 0, none⟩))] r' ∧ Sep ok w w' [.blk b33 25 [.int .i64 a0.W, .int .i64 a0.H, .slice A1 a0.Color.length cp2, .slice A5 a0.Depth.length cp6, .slice A9 a0.Item.length cp10, .slice A13 a0.Tri.length cp14], .blk b35 25 [.int .i64 a1.W, .int .i64 a1.H, .slice A17 a1.Color.length cp18, .slice A21 a1.Depth.length cp22, .slice A25 a1.Item.length cp26, .slice A29 a1.Tri.length cp30]] [RE.rd k_Ar4_Int A1 cp2 a0.Color, RE.rd kInt A5 cp6 a0.Depth, RE.rd kInt A9 cp10 a0.Item, RE.rd kInt A13 cp14 a0.Tri, RE.rd k_Ar4_Int A17 cp18 a1.Color, RE.rd kInt A21 cp22 a1.Depth, RE.rd kInt A25 cp26 a1.Item, RE.rd kInt A29 cp30 a1.Tri]) ?_ ?_
   ·cases hbS : b40
    ·have hm := cond_f hbS hmS
     refine RL_cons (OpR_off (by exact wn2 rfl rfl rfl rfl) (by rfl) (by rfl) ?_)
     refine RL_cons (OpR_off (by exact wn2 rfl rfl rfl rfl) (by rfl) (by rfl) ?_)
     refine RL_cons (OpR_off (by exact wn2 rfl rfl rfl rfl) (by rfl) (by rfl) ?_)
     refine RL_cons (OpR_off (by exact wn2 rfl rfl rfl rfl) (by rfl) (by rfl) ?_)
     refine RL_cons (OpR_off (by exact wn2 rfl rfl rfl rfl) (by rfl) (by rfl) ?_)
     refine RL_pure (by exact wn0 rfl) (by rfl) (by rfl) (x_pick_f (v := .bool false) (by rfl) (by rfl)) ?_
     refine RL_nil ?_
     exact ⟨⟨congrArg Value.bool (Option.some.inj hm), rfl, rfl, trivial⟩, H⟩
    ·have hm := cond_t hbS hmS
     refine RL_pure (by exact wn1 rfl rfl rfl rfl) (by rfl) (by rfl) (x_fieldAddr fo25_3 (by rfl)) ?_
     refine RL_pure (by exact wn1 rfl rfl rfl rfl) (by rfl) (by rfl) (x_load (j := 3) (v := .slice A5 a0.Depth.length cp6) sc23 (by rfl) (H.cells (i := 0) (by rfl)) (by rfl)) ?_
     refine RL_pure (by exact wn1 rfl rfl rfl rfl) (by rfl) (by rfl) (x_fieldAddr fo25_3 (by rfl)) ?_
     refine RL_pure (by exact wn1 rfl rfl rfl rfl) (by rfl) (by rfl) (x_load (j := 3) (v := .slice A21 a1.Depth.length cp22) sc23 (by rfl) (H.cells (i := 1) (by rfl)) (by rfl)) ?_
     obtain ⟨v48, hv47, hm⟩ := bind_some hm
     refine RL_cons (O_call (by exact wn1 rfl rfl rfl rfl) (by rfl) (by rfl) (x_callL (by rfl) (args := [.slice A5 a0.Depth.length cp6, .slice A21 a1.Depth.length cp22]) (by rfl) (cf78 _ _)) (c78 (fun _ => True) K w45 a0.Depth A5 cp6 a1.Depth A21 cp22 (H.rd (i := 1) (by rfl)).any (H.rd (i := 5) (by rfl)).any v48 hv47) ?_)
     rintro e w49 ⟨rfl, H2⟩
     have H : Sep ok w w49 [.blk b33 25 [.int .i64 a0.W, .int .i64 a0.H, .slice A1 a0.Color.length cp2, .slice A5 a0.Depth.length cp6, .slice A9 a0.Item.length cp10, .slice A13 a0.Tri.length cp14], .blk b35 25 [.int .i64 a1.W, .int .i64 a1.H, .slice A17 a1.Color.length cp18, .slice A21 a1.Depth.length cp22, .slice A25 a1.Item.length cp26, .slice A29 a1.Tri.length cp30]] [RE.rd k_Ar4_Int A1 cp2 a0.Color, RE.rd kInt A5 cp6 a0.Depth, RE.rd kInt A9 cp10 a0.Item, RE.rd kInt A13 cp14 a0.Tri, RE.rd k_Ar4_Int A17 cp18 a1.Color, RE.rd kInt A21 cp22 a1.Depth, RE.rd kInt A25 cp26 a1.Item, RE.rd kInt A29 cp30 a1.Tri] := H.below H2.base
     clear H2
     refine ⟨_, rfl, ?_⟩
     show RL _ _ _ _ _ _ _
     refine RL_pure (by exact wn0 rfl) (by rfl) (by rfl) (x_pick_t (v := .bool v48) (by rfl) (by rfl)) ?_
     refine RL_nil ?_
     exact ⟨⟨congrArg Value.bool (Option.some.inj hm), rfl, rfl, trivial⟩, H⟩
   ·rintro r' w' ⟨hA, H⟩
    obtain ⟨r50, rfl⟩ := regen _ hA; clear hA
    obtain ⟨w51, rfl⟩ : ∃ W : World, W = w' := ⟨_, rfl⟩
    show RL _ _ _ _ _ _ _
    refine RL_pure (by exact wn0 rfl) (by rfl) (by rfl) (x_move (v := .bool b46) (by rfl)) ?_
    obtain ⟨b52, hmS, hm⟩ := bind_some hm
    refine RL_cut 6 (fun r' w' => Agr [(37, .bool b52), (2, .pointer (some ⟨b33, 0, none⟩)), (3, .pointer (some ⟨b35, 0, none⟩))] r' ∧ Sep ok w w' [.blk b33 25 [.int .i64 a0.W, .int .i64 a0.H, .slice A1 a0.Color.length cp2, .slice A5 a0.Depth.length cp6, .slice A9 a0.Item.length cp10, .slice A13 a0.Tri.length cp14], .blk b35 25 [.int .i64 a1.W, .int .i64 a1.H, .slice A17 a1.Color.length cp18, .slice A21 a1.Depth.length cp22, .slice A25 a1.Item.length cp26, .slice A29 a1.Tri.length cp30]] [RE.rd k_Ar4_Int A1 cp2 a0.Color, RE.rd kInt A5 cp6 a0.Depth, RE.rd kInt A9 cp10 a0.Item, RE.rd kInt A13 cp14 a0.Tri, RE.rd k_Ar4_Int A17 cp18 a1.Color, RE.rd kInt A21 cp22 a1.Depth, RE.rd kInt A25 cp26 a1.Item, RE.rd kInt A29 cp30 a1.Tri]) ?_ ?_
    ·cases hbS : b46
     ·have hm := cond_f hbS hmS
      refine RL_cons (OpR_off (by exact wn2 rfl rfl rfl rfl) (by rfl) (by rfl) ?_)
      refine RL_cons (OpR_off (by exact wn2 rfl rfl rfl rfl) (by rfl) (by rfl) ?_)
      refine RL_cons (OpR_off (by exact wn2 rfl rfl rfl rfl) (by rfl) (by rfl) ?_)
      refine RL_cons (OpR_off (by exact wn2 rfl rfl rfl rfl) (by rfl) (by rfl) ?_)
      refine RL_cons (OpR_off (by exact wn2 rfl rfl rfl rfl) (by rfl) (by rfl) ?_)
      refine RL_pure (by exact wn0 rfl) (by rfl) (by rfl) (x_pick_f (v := .bool false) (by rfl) (by rfl)) ?_
      refine RL_nil ?_
      exact ⟨⟨congrArg Value.bool (Option.some.inj hm), rfl, rfl, trivial⟩, H⟩
     ·have hm := cond_t hbS hmS
      refine RL_pure (by exact wn1 rfl rfl rfl rfl) (by rfl) (by rfl) (x_fieldAddr fo25_4 (by rfl)) ?_
      refine RL_pure (by exact wn1 rfl rfl rfl rfl) (by rfl) (by rfl) (x_load (j := 4) (v := .slice A9 a0.Item.length cp10) sc23 (by rfl) (H.cells (i := 0) (by rfl)) (by rfl)) ?_
      refine RL_pure (by exact wn1 rfl rfl rfl rfl) (by rfl) (by rfl) (x_fieldAddr fo25_4 (by rfl)) ?_
      refine RL_pure (by exact wn1 rfl rfl rfl rfl) (by rfl) (by rfl) (x_load (j := 4) (v := .slice A25 a1.Item.length cp26) sc23 (by rfl) (H.cells (i := 1) (by rfl)) (by rfl)) ?_
      obtain ⟨v54, hv53, hm⟩ := bind_some hm
      refine RL_cons (O_call (by exact wn1 rfl rfl rfl rfl) (by rfl) (by rfl) (x_callL (by rfl) (args := [.slice A9 a0.Item.length cp10, .slice A25 a1.Item.length cp26]) (by rfl) (cf78 _ _)) (c78 (fun _ => True) K w51 a0.Item A9 cp10 a1.Item A25 cp26 (H.rd (i := 2) (by rfl)).any (H.rd (i := 6) (by rfl)).any v54 hv53) ?_)
      rintro e w55 ⟨rfl, H2⟩
      have H : Sep ok w w55 [.blk b33 25 [.int .i64 a0.W, .int .i64 a0.H, .slice A1 a0.Color.length cp2, .slice A5 a0.Depth.length cp6, .slice A9 a0.Item.length cp10, .slice A13 a0.Tri.length cp14], .blk b35 25 [.int .i64 a1.W, .int .i64 a1.H, .slice A17 a1.Color.length cp18, .slice A21 a1.Depth.length cp22, .slice A25 a1.Item.length cp26, .slice A29 a1.Tri.length cp30]] [RE.rd k_Ar4_Int A1 cp2 a0.Color, RE.rd kInt A5 cp6 a0.Depth, RE.rd kInt A9 cp10 a0.Item, RE.rd kInt A13 cp14 a0.Tri, RE.rd k_Ar4_Int A17 cp18 a1.Color, RE.rd kInt A21 cp22 a1.Depth, RE.rd kInt A25 cp26 a1.Item, RE.rd kInt A29 cp30 a1.Tri] := H.below H2.base
      clear H2
      refine ⟨_, rfl, ?_⟩
      show RL _ _ _ _ _ _ _
      refine RL_pure (by exact wn0 rfl) (by rfl) (by rfl) (x_pick_t (v := .bool v54) (by rfl) (by rfl)) ?_
      refine RL_nil ?_
      exact ⟨⟨congrArg Value.bool (Option.some.inj hm), rfl, rfl, trivial⟩, H⟩
    ·rintro r' w' ⟨hA, H⟩
     obtain ⟨r56, rfl⟩ := regen _ hA; clear hA
     obtain ⟨w57, rfl⟩ : ∃ W : World, W = w' := ⟨_, rfl⟩
     show RL _ _ _ _ _ _ _
     refine RL_pure (by exact wn0 rfl) (by rfl) (by rfl) (x_move (v := .bool b52) (by rfl)) ?_
     obtain ⟨b58, hmS, hm⟩ := bind_some hm
     refine RL_cut 6 (fun r' w' => Agr [(44, .bool b58)] r' ∧ Sep ok w w' [.blk b33 25 [.int .i64 a0.W, .int .i64 a0.H, .slice A1 a0.Color.length cp2, .slice A5 a0.Depth.length cp6, .slice A9 a0.Item.length cp10, .slice A13 a0.Tri.length cp14], .blk b35 25 [.int .i64 a1.W, .int .i64 a1.H, .slice A17 a1.Color.length cp18, .slice A21 a1.Depth.length cp22, .slice A25 a1.Item.length cp26, .slice A29 a1.Tri.length cp30]] [RE.rd k_Ar4_Int A1 cp2 a0.Color, RE.rd kInt A5 cp6 a0.Depth, RE.rd kInt A9 cp10 a0.Item, RE.rd kInt A13 cp14 a0.Tri, RE.rd k_Ar4_Int A17 cp18 a1.Color, RE.rd kInt A21 cp22 a1.Depth, RE.rd kInt A25 cp26 a1.Item, RE.rd kInt A29 cp30 a1.Tri]) ?_ ?_
     ·cases hbS : b52
      ·have hm := cond_f hbS hmS
       refine RL_cons (OpR_off (by exact wn2 rfl rfl rfl rfl) (by rfl) (by rfl) ?_)
       refine RL_cons (OpR_off (by exact wn2 rfl rfl rfl rfl) (by rfl) (by rfl) ?_)
       refine RL_cons (OpR_off (by exact wn2 rfl rfl rfl rfl) (by rfl) (by rfl) ?_)
       refine RL_cons (OpR_off (by exact wn2 rfl rfl rfl rfl) (by rfl) (by rfl) ?_)
       refine RL_cons (OpR_off (by exact wn2 rfl rfl rfl rfl) (by rfl) (by rfl) ?_)
       refine RL_pure (by exact wn0 rfl) (by rfl) (by rfl) (x_pick_f (v := .bool false) (by rfl) (by rfl)) ?_
       refine RL_nil ?_
       exact ⟨⟨congrArg Value.bool (Option.some.inj hm), trivial⟩, H⟩
      ·have hm := cond_t hbS hmS
       refine RL_pure (by exact wn1 rfl rfl rfl rfl) (by rfl) (by rfl) (x_fieldAddr fo25_5 (by rfl)) ?_
       refine RL_pure (by exact wn1 rfl rfl rfl rfl) (by rfl) (by rfl) (x_load (j := 5) (v := .slice A13 a0.Tri.length cp14) sc23 (by rfl) (H.cells (i := 0) (by rfl)) (by rfl)) ?_
       refine RL_pure (by exact wn1 rfl rfl rfl rfl) (by rfl) (by rfl) (x_fieldAddr fo25_5 (by rfl)) ?_
       refine RL_pure (by exact wn1 rfl rfl rfl rfl) (by rfl) (by rfl) (x_load (j := 5) (v := .slice A29 a1.Tri.length cp30) sc23 (by rfl) (H.cells (i := 1) (by rfl)) (by rfl)) ?_
       obtain ⟨v60, hv59, hm⟩ := bind_some hm
       refine RL_cons (O_call (by exact wn1 rfl rfl rfl rfl) (by rfl) (by rfl) (x_callL (by rfl) (args := [.slice A13 a0.Tri.length cp14, .slice A29 a1.Tri.length cp30]) (by rfl) (cf78 _ _)) (c78 (fun _ => True) K w57 a0.Tri A13 cp14 a1.Tri A29 cp30 (H.rd (i := 3) (by rfl)).any (H.rd (i := 7) (by rfl)).any v60 hv59) ?_)
       rintro e w61 ⟨rfl, H2⟩
       have H : Sep ok w w61 [.blk b33 25 [.int .i64 a0.W, .int .i64 a0.H, .slice A1 a0.Color.length cp2, .slice A5 a0.Depth.length cp6, .slice A9 a0.Item.length cp10, .slice A13 a0.Tri.length cp14], .blk b35 25 [.int .i64 a1.W, .int .i64 a1.H, .slice A17 a1.Color.length cp18, .slice A21 a1.Depth.length cp22, .slice A25 a1.Item.length cp26, .slice A29 a1.Tri.length cp30]] [RE.rd k_Ar4_Int A1 cp2 a0.Color, RE.rd kInt A5 cp6 a0.Depth, RE.rd kInt A9 cp10 a0.Item, RE.rd kInt A13 cp14 a0.Tri, RE.rd k_Ar4_Int A17 cp18 a1.Color, RE.rd kInt A21 cp22 a1.Depth, RE.rd kInt A25 cp26 a1.Item, RE.rd kInt A29 cp30 a1.Tri] := H.below H2.base
       clear H2
       refine ⟨_, rfl, ?_⟩
       show RL _ _ _ _ _ _ _
       refine RL_pure (by exact wn0 rfl) (by rfl) (by rfl) (x_pick_t (v := .bool v60) (by rfl) (by rfl)) ?_
       refine RL_nil ?_
       exact ⟨⟨congrArg Value.bool (Option.some.inj hm), trivial⟩, H⟩
     ·rintro r' w' ⟨hA, H⟩
      obtain ⟨r62, rfl⟩ := regen _ hA; clear hA
      obtain ⟨w63, rfl⟩ : ∃ W : World, W = w' := ⟨_, rfl⟩
      show RL _ _ _ _ _ _ _
      refine RL_pure (by exact wn0 rfl) (by rfl) (by rfl) (x_assign (v := .bool b58) (by rfl)) ?_
      refine RL_nil ?_
      refine W_ret ?_
      obtain rfl := Option.some.inj hm
      exact ⟨[.bool b58], (.tmp (by rfl) rfl), rfl, H.none_⟩
end Go.Proofs.YtobkigllalbkiaaV.M

/- Frames, in plain Lean: what 'Check', 'Put', 'Lay' and 'Same' answer. -/
set_option linter.unusedVariables false
set_option linter.unusedSimpArgs false
namespace Go.Proofs.YtobkigllalbkiaaV.M
/-- May a pixel's depth, item and triangle be? -/
def some1 (d it tr : Int) : Prop := -1024 ≤ d ∧ d ≤ 66560 ∧ 0 ≤ it ∧ it < 256 ∧ 0 ≤ tr ∧ tr < 64
def pixOK (d it tr : Int) : Prop := (d = -2048 ∧ it = -1 ∧ tr = -1) ∨ some1 d it tr
instance (d it tr : Int) : Decidable (some1 d it tr) := by unfold some1; infer_instance
instance (d it tr : Int) : Decidable (pixOK d it tr) := by unfold pixOK; infer_instance
theorem m70_eq (K : Nat) (d : Int) : ∃ b, m70 K d = some b ∧ (b = true ↔ -1024 ≤ d ∧ d ≤ 66560) := by
  unfold m70
  by_cases h1 : -1024 ≤ d
  · refine ⟨decide (d ≤ 66560), by rw [decide_eq_true h1]; rfl, ?_⟩
    simp [h1]
  · exact ⟨false, by rw [decide_eq_false h1]; rfl, by simp; omega⟩
theorem m75_eq (K : Nat) (d it tr : Int) : ∃ b, m75 K d it tr = some b ∧ (b = true ↔ some1 d it tr) := by
  obtain ⟨b, e, hb⟩ := m70_eq K d
  unfold m75 some1
  rw [e, Option.bind_some]
  cases b with
  | false =>
    refine ⟨false, rfl, ?_⟩
    constructor
    · intro h; cases h
    · rintro ⟨h1, h2, _⟩; exact absurd (hb.2 ⟨h1, h2⟩) (by simp)
  | true =>
    have hd := hb.1 rfl
    rw [cond_true, Option.bind_some]
    by_cases h1 : 0 ≤ it
    · rw [decide_eq_true h1, cond_true, Option.bind_some]
      by_cases h2 : it < 256
      · rw [decide_eq_true h2, cond_true, Option.bind_some]
        by_cases h3 : 0 ≤ tr
        · rw [decide_eq_true h3, cond_true, Option.bind_some]
          refine ⟨decide (tr < 64), rfl, ?_⟩
          simp [hd, h1, h2, h3]
        · rw [decide_eq_false h3]; exact ⟨false, rfl, by simp; omega⟩
      · rw [decide_eq_false h2]; exact ⟨false, rfl, by simp; omega⟩
    · rw [decide_eq_false h1]; exact ⟨false, rfl, by simp; omega⟩
/-- A frame's pixels, one by one. -/
theorem m33_loop {K : Nat} {f : S_Frame} {n : Nat} (hd : f.Depth.length = n) (hi : f.Item.length = n) (ht : f.Tri.length = n) (hn : n ≤ 100000) : ∀ (k i : Nat), i ≤ n → n < i + k →
    (∀ (j : Nat) (d it tr : Int), j < i → f.Depth[j]? = some d → f.Item[j]? = some it → f.Tri[j]? = some tr → pixOK d it tr) →
    ∃ e, m33_l1 K f k i = some e ∧ (e = 0 ∨ e = 8) ∧ (e = 0 ↔ ∀ (j : Nat) (d it tr : Int), f.Depth[j]? = some d → f.Item[j]? = some it → f.Tri[j]? = some tr → pixOK d it tr) := by
  intro k
  induction k with
  | zero => intro i h1 h2; omega
  | succ k ih =>
    intro i h1 h2 hpre
    show ∃ e, m33_l1b K f (m33_l1 K f k) i = some e ∧ _
    unfold m33_l1b
    by_cases hlt : i < n
    · have h3 : (i : Int) < (f.Depth.length : Int) := by omega
      have g1 : f.Depth[i]? = some (f.Depth[i]'(by omega)) := List.getElem?_eq_getElem (by omega)
      have g2 : f.Item[i]? = some (f.Item[i]'(by omega)) := List.getElem?_eq_getElem (by omega)
      have g3 : f.Tri[i]? = some (f.Tri[i]'(by omega)) := List.getElem?_eq_getElem (by omega)
      generalize f.Depth[i]'(by omega) = d at g1
      generalize f.Item[i]'(by omega) = it at g2
      generalize f.Tri[i]'(by omega) = tr at g3
      rw [decide_eq_true h3, cond_true, idx_nat g1]
      have key : ∀ (R : Bool → Option Int), ((bif (d == (-2048)) then (idx f.Item (i : Int) fun el42 => some (el42 == (-1))) else some false).bind fun b41 => ((bif b41 then (idx f.Tri (i : Int) fun el52 => some (el52 == (-1))) else some false).bind fun b51 => ((bif (!b51) then (idx f.Item (i : Int) fun el63 => (idx f.Tri (i : Int) fun el70 => ((m75 K d el63 el70).bind fun v78 => some (!v78)))) else some false).bind R))) = R (decide (¬ pixOK d it tr)) := by
        intro R
        obtain ⟨b, eb, hb⟩ := m75_eq K d it tr
        rw [idx_nat g2, idx_nat g3, idx_nat g2]
        simp only [idx_nat g3, eb, Option.bind_some]
        unfold pixOK
        by_cases q1 : d = -2048
        · by_cases q2 : it = -1
          · by_cases q3 : tr = -1
            · simp [q1, q2, q3]
            · have : ¬ some1 d it tr := by unfold some1; omega
              have hbf : b = false := by cases b; rfl; exact absurd (hb.1 rfl) this
              subst hbf
              rw [show (d == (-2048)) = true by simp [q1], show (it == (-1)) = true by simp [q2], show (tr == (-1)) = false by simp [q3]]
              simp [q3, this]
          · have : ¬ some1 d it tr := by unfold some1; omega
            have hbf : b = false := by cases b; rfl; exact absurd (hb.1 rfl) this
            subst hbf
            rw [show (d == (-2048)) = true by simp [q1], show (it == (-1)) = false by simp [q2]]
            simp [q2, this]
        · rw [show (d == (-2048)) = false by simp [q1]]
          cases b with
          | true => have := hb.1 rfl; simp [q1, this]
          | false =>
            have : ¬ some1 d it tr := fun h => absurd (hb.2 h) (by simp)
            simp [q1, this]
      rw [key]
      by_cases hp : pixOK d it tr
      · rw [decide_eq_false (fun h => h hp), cond_false, cast_succ, ck_in (by omega) (by omega)]
        refine ih (i + 1) (by omega) (by omega) fun j d' it' tr' hj k1 k2 k3 => ?_
        by_cases hji : j = i
        · subst hji
          rw [g1] at k1; rw [g2] at k2; rw [g3] at k3
          cases k1; cases k2; cases k3; exact hp
        · exact hpre j d' it' tr' (by omega) k1 k2 k3
      · rw [decide_eq_true hp, cond_true]
        refine ⟨8, rfl, .inr rfl, ?_⟩
        constructor
        · intro h; cases h
        · intro h; exact absurd (h i d it tr g1 g2 g3) hp
    · have h3 : ¬ (i : Int) < (f.Depth.length : Int) := by omega
      rw [decide_eq_false h3, cond_false]
      refine ⟨0, rfl, .inl rfl, ?_⟩
      simp only [true_iff]
      intro j d it tr k1 k2 k3
      have := (List.getElem?_eq_some_iff.1 k1).1
      exact hpre j d it tr (by omega) k1 k2 k3
/-- May a frame be? -/
structure FOK (f : S_Frame) (w h : Nat) : Prop where
  W : f.W = w
  H : f.H = h
  w1 : 1 ≤ w
  w64 : w ≤ 64
  h1 : 1 ≤ h
  h64 : h ≤ 64
  c : f.Color.length = w * h
  d : f.Depth.length = w * h
  i : f.Item.length = w * h
  t : f.Tri.length = w * h
  pix : ∀ (j : Nat) (d it tr : Int), f.Depth[j]? = some d → f.Item[j]? = some it → f.Tri[j]? = some tr → pixOK d it tr
theorem m33_eq {K : Nat} (hK : 10000 ≤ K) (f : S_Frame) : ∃ e, m33 K f = some e ∧ (e = 0 ∨ e = 8) ∧ (e = 0 ↔ ∃ w h, FOK f w h) := by
  have no : ∀ {e : Int}, e = 8 → ¬ (∃ w h, FOK f w h) → (e = 0 ↔ ∃ w h, FOK f w h) := fun he hn => by subst he; constructor; intro h; cases h; intro h; exact absurd h hn
  unfold m33
  by_cases c1 : mn f.W f.H < 1
  · refine ⟨8, by rw [decide_eq_true c1]; rfl, .inr rfl, no rfl ?_⟩
    rintro ⟨w, h, q⟩
    rw [mn_eq, q.W, q.H] at c1
    have := q.w1; have := q.h1; omega
  by_cases c2 : 64 < mx f.W f.H
  · refine ⟨8, by rw [decide_eq_false c1, decide_eq_true c2]; rfl, .inr rfl, no rfl ?_⟩
    rintro ⟨w, h, q⟩
    rw [mx_eq, q.W, q.H] at c2
    have := q.w64; have := q.h64; omega
  rw [mn_eq] at c1
  rw [mx_eq] at c2
  obtain ⟨w, hw⟩ : ∃ w : Nat, f.W = (w : Int) := ⟨f.W.toNat, by omega⟩
  obtain ⟨h, hh⟩ : ∃ h : Nat, f.H = (h : Int) := ⟨f.H.toNat, by omega⟩
  have w1 : 1 ≤ w := by omega
  have w64 : w ≤ 64 := by omega
  have h1 : 1 ≤ h := by omega
  have h64 : h ≤ 64 := by omega
  have hp : w * h ≤ 4096 := Nat.mul_le_mul w64 h64
  have e1 : (w : Int) * (h : Int) = ((w * h : Nat) : Int) := by push_cast; rfl
  have uniq : ∀ {a b : Nat}, FOK f a b → a * b = w * h := fun {a b} q => by
    have q1 := q.W
    have q2 := q.H
    have e1 : a = w := by omega
    have e2 : b = h := by omega
    subst e1; subst e2; rfl
  rw [decide_eq_false (by rw [mn_eq]; exact c1), cond_false, decide_eq_false (by rw [mx_eq]; exact c2), Option.bind_some, cond_false, hw, hh, e1, ck_in (by omega) (by omega)]
  by_cases l1 : f.Color.length = w * h
  · by_cases l2 : f.Depth.length = w * h
    · by_cases l3 : f.Item.length = w * h
      · by_cases l4 : f.Tri.length = w * h
        · obtain ⟨e, k1, k2, k3⟩ := m33_loop (K := K) (f := f) l2 l3 l4 (by omega) K 0 (by omega) (by omega) (fun j d it tr hj => absurd hj (Nat.not_lt_zero _))
          refine ⟨e, ?_, k2, ?_⟩
          · rw [l1, l2, l3, l4]
            simp only [bne_self_eq_false, cond_false, Option.bind_some]
            exact k1
          · rw [k3]
            exact ⟨fun q => ⟨w, h, hw, hh, w1, w64, h1, h64, l1, l2, l3, l4, q⟩, fun ⟨_, _, q⟩ => q.pix⟩
        · refine ⟨8, ?_, .inr rfl, no rfl fun ⟨a, b, q⟩ => l4 (by rw [← uniq q]; exact q.t)⟩
          rw [l1, l2, l3, show ((f.Tri.length : Int) != ((w * h : Nat) : Int)) = true by simp; omega]
          simp
      · refine ⟨8, ?_, .inr rfl, no rfl fun ⟨a, b, q⟩ => l3 (by rw [← uniq q]; exact q.i)⟩
        rw [l1, l2, show ((f.Item.length : Int) != ((w * h : Nat) : Int)) = true by simp; omega]
        simp
    · refine ⟨8, ?_, .inr rfl, no rfl fun ⟨a, b, q⟩ => l2 (by rw [← uniq q]; exact q.d)⟩
      rw [l1, show ((f.Depth.length : Int) != ((w * h : Nat) : Int)) = true by simp; omega]
      simp
  · refine ⟨8, ?_, .inr rfl, no rfl fun ⟨a, b, q⟩ => l1 (by rw [← uniq q]; exact q.c)⟩
    rw [show ((f.Color.length : Int) != ((w * h : Nat) : Int)) = true by simp; omega]
    simp
end Go.Proofs.YtobkigllalbkiaaV.M
