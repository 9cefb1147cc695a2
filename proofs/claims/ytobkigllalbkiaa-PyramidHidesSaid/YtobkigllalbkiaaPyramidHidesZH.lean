/- Proved: PyramidHides returns true, whatever its arguments and the memory that it is called in, and each argument reads behind the call as it did before. No condition. -/
import Derived.Test.YtobkigllalbkiaaPyramidHidesZG
/- A plain Lean function that answers as the Go function does (none: not told), and the proof that a call answers so. Written by program. -/
set_option linter.unusedVariables false
namespace Go.Proofs.YtobkigllalbkiaaV.M
open Go.RowKit Go.Proofs.YtobkigllalbkiaaV
def m7_j1 (K : Nat) (a2 : Int) (a3 : Int) (a4 : S_Frag) (a5 : (Ar4 Int)) (v28 : Bool) (v49 : S_Pyramid × Int) (b87_0_1 : Int) (b87_1_1 : Int) (b87_2_1 : (List (Ar4 Int))) (b87_3_1 : (List Int)) (b87_4_1 : (List Int)) (b87_5_1 : (List Int)) : Option (Bool) :=
 ((m30 K (⟨b87_0_1, b87_1_1, b87_2_1, b87_3_1, b87_4_1, b87_5_1⟩ : S_Frame) a2 a3 a4 a5).bind fun v94 => ((m27 K (⟨b87_0_1, b87_1_1, b87_2_1, b87_3_1, b87_4_1, b87_5_1⟩ : S_Frame) a2 a3 a4.D a5).bind fun v112 => ((bif v28 then ((bif (v94.2 != 0) then some true else ((m32 K v94.1 (⟨b87_0_1, b87_1_1, b87_2_1, b87_3_1, b87_4_1, b87_5_1⟩ : S_Frame)).bind fun v132 => some v132)).bind fun b130 => some b130) else some false).bind fun b129 => ((bif b129 then ((bif (v112.2 != 0) then some true else ((m32 K v112.1 (⟨b87_0_1, b87_1_1, b87_2_1, b87_3_1, b87_4_1, b87_5_1⟩ : S_Frame)).bind fun v141 => some v141)).bind fun b139 => some b139) else some false).bind fun b138 => ((bif b138 then ((m23 K v49.1).bind fun v149 => some (v149 == 0)) else some false).bind fun b147 => some b147)))))
/-- diorama/dioramalaw27.PyramidHides -/
def m7 (K : Nat) (a0 : S_Frame) (a1 : S_Shade) (a2 : Int) (a3 : Int) (a4 : S_Frag) (a5 : (Ar4 Int)) (a6 : Int) (a7 : Int) (a8 : S_Frag) : Option (Bool) :=
 ((m34 K ).bind fun v28 => (bif (!v28) then some false else ((m11 K a0).bind fun v31 => ((bif v31 then some true else some (decide (a2 < a1.Rect.X0))).bind fun b33 => ((bif b33 then some true else some (decide (a1.Rect.X1 < a2))).bind fun b36 => ((bif b36 then some true else some (decide (a3 < a1.Rect.Y0))).bind fun b39 => ((bif b39 then some true else some (decide (a1.Rect.Y1 < a3))).bind fun b42 => ((bif b42 then some true else some (decide (a1.D < a4.D))).bind fun b45 => (bif b45 then some v28 else ((m15 K a0).bind fun v49 => ((m19 K v49.1 a1).bind fun v58 => ((bif (v49.2 != 0) then some true else some (v58.2 != 0)).bind fun b60 => ((bif b60 then some true else some (!v58.1)).bind fun b63 => (bif b63 then ((bif v28 then ((bif (!v58.1) then some true else some (v58.2 == 0)).bind fun b67 => some b67) else some false).bind fun b66 => some b66) else ((m30 K a0 a6 a7 a8 a5).bind fun v73 => (bif (v73.2 != 0) then (m7_j1 K a2 a3 a4 a5 v28 v49 a0.W a0.H a0.Color a0.Depth a0.Item a0.Tri) else (m7_j1 K a2 a3 a4 a5 v28 v49 v73.1.W v73.1.H v73.1.Color v73.1.Depth v73.1.Item v73.1.Tri)))))))))))))))))
set_option maxRecDepth 100000 in
set_option maxHeartbeats 4000000 in
theorem c7 (ok : Nat → Prop) (K : Nat) (w : World) (a0 : S_Frame) (A1 : Option Addr) (cp2 : Nat) (A5 : Option Addr) (cp6 : Nat) (A9 : Option Addr) (cp10 : Nat) (A13 : Option Addr) (cp14 : Nat) (a1 : S_Shade) (a2 : Int) (a3 : Int) (a4 : S_Frag) (a5 : (Ar4 Int)) (a6 : Int) (a7 : Int) (a8 : S_Frag) (hR3 : Rd k_Ar4_Int w ok A1 cp2 a0.Color) (hR7 : Rd kInt w ok A5 cp6 a0.Depth) (hR11 : Rd kInt w ok A9 cp10 a0.Item) (hR15 : Rd kInt w ok A13 cp14 a0.Tri) (res : Bool) (hm : m7 K a0 a1 a2 a3 a4 a5 a6 a7 a8 = some res) :
  Calls Try.prog 7 #[.agg #[.int .i64 a0.W, .int .i64 a0.H, .slice A1 a0.Color.length cp2, .slice A5 a0.Depth.length cp6, .slice A9 a0.Item.length cp10, .slice A13 a0.Tri.length cp14], .agg #[.int .i64 a1.Rect.X0, .int .i64 a1.Rect.Y0, .int .i64 a1.Rect.X1, .int .i64 a1.Rect.Y1, .int .i64 a1.D], .int .i64 a2, .int .i64 a3, .agg #[.int .i64 a4.D, .int .i64 a4.Item, .int .i64 a4.Tri, .int .i64 a4.Part, .int .i64 a4.U, .int .i64 a4.V], .agg #[.int .u8 a5.a0, .int .u8 a5.a1, .int .u8 a5.a2, .int .u8 a5.a3], .int .i64 a6, .int .i64 a7, .agg #[.int .i64 a8.D, .int .i64 a8.Item, .int .i64 a8.Tri, .int .i64 a8.Part, .int .i64 a8.U, .int .i64 a8.V]] w (fun e w' => e = .returned (tup [.bool res]) ∧ Sep ok w w' [] []) := by
 refine calls_W (args := [.agg #[.int .i64 a0.W, .int .i64 a0.H, .slice A1 a0.Color.length cp2, .slice A5 a0.Depth.length cp6, .slice A9 a0.Item.length cp10, .slice A13 a0.Tri.length cp14], .agg #[.int .i64 a1.Rect.X0, .int .i64 a1.Rect.Y0, .int .i64 a1.Rect.X1, .int .i64 a1.Rect.Y1, .int .i64 a1.D], .int .i64 a2, .int .i64 a3, .agg #[.int .i64 a4.D, .int .i64 a4.Item, .int .i64 a4.Tri, .int .i64 a4.Part, .int .i64 a4.U, .int .i64 a4.V], .agg #[.int .u8 a5.a0, .int .u8 a5.a1, .int .u8 a5.a2, .int .u8 a5.a3], .int .i64 a6, .int .i64 a7, .agg #[.int .i64 a8.D, .int .i64 a8.Item, .int .i64 a8.Tri, .int .i64 a8.Part, .int .i64 a8.U, .int .i64 a8.V]]) Try.func7 rfl Try.ntmps7 Try.results7 rfl fun r hr => ?_
 obtain ⟨r1, rfl⟩ := regen (r := r) [(0, .agg #[.int .i64 a0.W, .int .i64 a0.H, .slice A1 a0.Color.length cp2, .slice A5 a0.Depth.length cp6, .slice A9 a0.Item.length cp10, .slice A13 a0.Tri.length cp14]), (1, .agg #[.int .i64 a1.Rect.X0, .int .i64 a1.Rect.Y0, .int .i64 a1.Rect.X1, .int .i64 a1.Rect.Y1, .int .i64 a1.D]), (2, .int .i64 a2), (3, .int .i64 a3), (4, .agg #[.int .i64 a4.D, .int .i64 a4.Item, .int .i64 a4.Tri, .int .i64 a4.Part, .int .i64 a4.U, .int .i64 a4.V]), (5, .agg #[.int .u8 a5.a0, .int .u8 a5.a1, .int .u8 a5.a2, .int .u8 a5.a3]), (6, .int .i64 a6), (7, .int .i64 a7), (8, .agg #[.int .i64 a8.D, .int .i64 a8.Item, .int .i64 a8.Tri, .int .i64 a8.Part, .int .i64 a8.U, .int .i64 a8.V])] ⟨hr 0 _ rfl, hr 1 _ rfl, hr 2 _ rfl, hr 3 _ rfl, hr 4 _ rfl, hr 5 _ rfl, hr 6 _ rfl, hr 7 _ rfl, hr 8 _ rfl, trivial⟩
 have H : Sep ok w w [] [RE.rd k_Ar4_Int A1 cp2 a0.Color, RE.rd kInt A5 cp6 a0.Depth, RE.rd kInt A9 cp10 a0.Item, RE.rd kInt A13 cp14 a0.Tri] := Sep.arg (Sep.arg (Sep.arg (Sep.arg (Sep.start ok w) (re := RE.rd k_Ar4_Int A1 cp2 a0.Color) rfl rfl hR3) (re := RE.rd kInt A5 cp6 a0.Depth) rfl rfl hR7) (re := RE.rd kInt A9 cp10 a0.Item) rfl rfl hR11) (re := RE.rd kInt A13 cp14 a0.Tri) rfl rfl hR15
 unfold m7 at hm
 refine W_seq ?_
 refine W_region ?_
 refine RL_cons (O_box (by exact wn0 rfl) (by rfl) (by rfl) (by rfl) H (fun w18 b17 (H : Sep ok w w18 [.blk b17 25 [.int .i64 a0.W, .int .i64 a0.H, .slice A1 a0.Color.length cp2, .slice A5 a0.Depth.length cp6, .slice A9 a0.Item.length cp10, .slice A13 a0.Tri.length cp14]] [RE.rd k_Ar4_Int A1 cp2 a0.Color, RE.rd kInt A5 cp6 a0.Depth, RE.rd kInt A9 cp10 a0.Item, RE.rd kInt A13 cp14 a0.Tri]) => ?_))
 refine RL_cons (O_box (by exact wn0 rfl) (by rfl) (by rfl) (by rfl) H (fun w20 b19 (H : Sep ok w w20 [.blk b17 25 [.int .i64 a0.W, .int .i64 a0.H, .slice A1 a0.Color.length cp2, .slice A5 a0.Depth.length cp6, .slice A9 a0.Item.length cp10, .slice A13 a0.Tri.length cp14], .blk b19 32 [.int .i64 a1.Rect.X0, .int .i64 a1.Rect.Y0, .int .i64 a1.Rect.X1, .int .i64 a1.Rect.Y1, .int .i64 a1.D]] [RE.rd k_Ar4_Int A1 cp2 a0.Color, RE.rd kInt A5 cp6 a0.Depth, RE.rd kInt A9 cp10 a0.Item, RE.rd kInt A13 cp14 a0.Tri]) => ?_))
 refine RL_cons (O_box (by exact wn0 rfl) (by rfl) (by rfl) (by rfl) H (fun w22 b21 (H : Sep ok w w22 [.blk b17 25 [.int .i64 a0.W, .int .i64 a0.H, .slice A1 a0.Color.length cp2, .slice A5 a0.Depth.length cp6, .slice A9 a0.Item.length cp10, .slice A13 a0.Tri.length cp14], .blk b19 32 [.int .i64 a1.Rect.X0, .int .i64 a1.Rect.Y0, .int .i64 a1.Rect.X1, .int .i64 a1.Rect.Y1, .int .i64 a1.D], .blk b21 68 [.int .i64 a4.D, .int .i64 a4.Item, .int .i64 a4.Tri, .int .i64 a4.Part, .int .i64 a4.U, .int .i64 a4.V]] [RE.rd k_Ar4_Int A1 cp2 a0.Color, RE.rd kInt A5 cp6 a0.Depth, RE.rd kInt A9 cp10 a0.Item, RE.rd kInt A13 cp14 a0.Tri]) => ?_))
 refine RL_cons (O_box (by exact wn0 rfl) (by rfl) (by rfl) (by rfl) H (fun w24 b23 (H : Sep ok w w24 [.blk b17 25 [.int .i64 a0.W, .int .i64 a0.H, .slice A1 a0.Color.length cp2, .slice A5 a0.Depth.length cp6, .slice A9 a0.Item.length cp10, .slice A13 a0.Tri.length cp14], .blk b19 32 [.int .i64 a1.Rect.X0, .int .i64 a1.Rect.Y0, .int .i64 a1.Rect.X1, .int .i64 a1.Rect.Y1, .int .i64 a1.D], .blk b21 68 [.int .i64 a4.D, .int .i64 a4.Item, .int .i64 a4.Tri, .int .i64 a4.Part, .int .i64 a4.U, .int .i64 a4.V], .blk b23 61 [.int .u8 a5.a0, .int .u8 a5.a1, .int .u8 a5.a2, .int .u8 a5.a3]] [RE.rd k_Ar4_Int A1 cp2 a0.Color, RE.rd kInt A5 cp6 a0.Depth, RE.rd kInt A9 cp10 a0.Item, RE.rd kInt A13 cp14 a0.Tri]) => ?_))
 refine RL_cons (O_box (by exact wn0 rfl) (by rfl) (by rfl) (by rfl) H (fun w26 b25 (H : Sep ok w w26 [.blk b17 25 [.int .i64 a0.W, .int .i64 a0.H, .slice A1 a0.Color.length cp2, .slice A5 a0.Depth.length cp6, .slice A9 a0.Item.length cp10, .slice A13 a0.Tri.length cp14], .blk b19 32 [.int .i64 a1.Rect.X0, .int .i64 a1.Rect.Y0, .int .i64 a1.Rect.X1, .int .i64 a1.Rect.Y1, .int .i64 a1.D], .blk b21 68 [.int .i64 a4.D, .int .i64 a4.Item, .int .i64 a4.Tri, .int .i64 a4.Part, .int .i64 a4.U, .int .i64 a4.V], .blk b23 61 [.int .u8 a5.a0, .int .u8 a5.a1, .int .u8 a5.a2, .int .u8 a5.a3], .blk b25 68 [.int .i64 a8.D, .int .i64 a8.Item, .int .i64 a8.Tri, .int .i64 a8.Part, .int .i64 a8.U, .int .i64 a8.V]] [RE.rd k_Ar4_Int A1 cp2 a0.Color, RE.rd kInt A5 cp6 a0.Depth, RE.rd kInt A9 cp10 a0.Item, RE.rd kInt A13 cp14 a0.Tri]) => ?_))
 refine RL_pure (by exact wn0 rfl) (by rfl) (by rfl) (x_assign (v := .bool false) (by rfl)) ?_
 refine RL_nil ?_
 refine W_seq ?_
 refine W_region ?_
 obtain ⟨v28, hv27, hm⟩ := bind_some hm
 refine RL_cons (O_call (by exact wn0 rfl) (by rfl) (by rfl) (x_callL (by rfl) (args := []) (by rfl) (cf34 _ _)) (c34 (fun _ => True) K w26   v28 hv27) ?_)
 rintro e w29 ⟨rfl, H2⟩
 have H : Sep ok w w29 [.blk b17 25 [.int .i64 a0.W, .int .i64 a0.H, .slice A1 a0.Color.length cp2, .slice A5 a0.Depth.length cp6, .slice A9 a0.Item.length cp10, .slice A13 a0.Tri.length cp14], .blk b19 32 [.int .i64 a1.Rect.X0, .int .i64 a1.Rect.Y0, .int .i64 a1.Rect.X1, .int .i64 a1.Rect.Y1, .int .i64 a1.D], .blk b21 68 [.int .i64 a4.D, .int .i64 a4.Item, .int .i64 a4.Tri, .int .i64 a4.Part, .int .i64 a4.U, .int .i64 a4.V], .blk b23 61 [.int .u8 a5.a0, .int .u8 a5.a1, .int .u8 a5.a2, .int .u8 a5.a3], .blk b25 68 [.int .i64 a8.D, .int .i64 a8.Item, .int .i64 a8.Tri, .int .i64 a8.Part, .int .i64 a8.U, .int .i64 a8.V]] [RE.rd k_Ar4_Int A1 cp2 a0.Color, RE.rd kInt A5 cp6 a0.Depth, RE.rd kInt A9 cp10 a0.Item, RE.rd kInt A13 cp14 a0.Tri] := H.below H2.base
 clear H2
 refine ⟨_, rfl, ?_⟩
 show RL _ _ _ _ _ _ _
 refine RL_pure (by exact wn0 rfl) (by rfl) (by rfl) (x_assign (v := .bool v28) (by rfl)) ?_
 refine RL_nil ?_
 refine W_seq ?_
 refine W_seq ?_
 refine W_region ?_
 refine RL_pure (by exact wn0 rfl) (by rfl) (by rfl) (x_move (v := .bool v28) (by rfl)) ?_
 refine RL_pure (by exact wn0 rfl) (by rfl) (by rfl) (x_not (by rfl)) ?_
 refine RL_nil ?_
 refine W_cond (by rfl) (fun hb => ?_) (fun hb => ?_)
 ·have hm := cond_t hb hm
  refine W_seq ?_
  refine W_region ?_
  refine RL_pure (by exact wn0 rfl) (by rfl) (by rfl) (x_assign (v := .bool false) (by rfl)) ?_
  refine RL_nil ?_
  refine W_ret ?_
  obtain rfl := Option.some.inj hm
  exact ⟨[.bool false], (.tmp (by rfl) rfl), rfl, H.none_⟩
 ·have hm := cond_f hb hm
  refine W_skip ?_
  refine W_seq ?_
  refine W_seq ?_
  refine W_region ?_
  refine RL_pure (by exact wn0 rfl) (by rfl) (by rfl) (x_loadA (j := 0) (vs := [.int .i64 a0.W, .int .i64 a0.H, .slice A1 a0.Color.length cp2, .slice A5 a0.Depth.length cp6, .slice A9 a0.Item.length cp10, .slice A13 a0.Tri.length cp14]) ag25 (by rfl) (H.cells (i := 0) (by rfl)) (by rfl) (by rfl)) ?_
  obtain ⟨v31, hv30, hm⟩ := bind_some hm
  refine RL_cons (O_call (by exact wn0 rfl) (by rfl) (by rfl) (x_callL (by rfl) (args := [.agg #[.int .i64 a0.W, .int .i64 a0.H, .slice A1 a0.Color.length cp2, .slice A5 a0.Depth.length cp6, .slice A9 a0.Item.length cp10, .slice A13 a0.Tri.length cp14]]) (by rfl) (cf11 _ _)) (c11 (fun _ => True) K w29 a0 A1 cp2 A5 cp6 A9 cp10 A13 cp14 (H.rd (i := 0) (by rfl)).any (H.rd (i := 1) (by rfl)).any (H.rd (i := 2) (by rfl)).any (H.rd (i := 3) (by rfl)).any v31 hv30) ?_)
  rintro e w32 ⟨rfl, H2⟩
  have H : Sep ok w w32 [.blk b17 25 [.int .i64 a0.W, .int .i64 a0.H, .slice A1 a0.Color.length cp2, .slice A5 a0.Depth.length cp6, .slice A9 a0.Item.length cp10, .slice A13 a0.Tri.length cp14], .blk b19 32 [.int .i64 a1.Rect.X0, .int .i64 a1.Rect.Y0, .int .i64 a1.Rect.X1, .int .i64 a1.Rect.Y1, .int .i64 a1.D], .blk b21 68 [.int .i64 a4.D, .int .i64 a4.Item, .int .i64 a4.Tri, .int .i64 a4.Part, .int .i64 a4.U, .int .i64 a4.V], .blk b23 61 [.int .u8 a5.a0, .int .u8 a5.a1, .int .u8 a5.a2, .int .u8 a5.a3], .blk b25 68 [.int .i64 a8.D, .int .i64 a8.Item, .int .i64 a8.Tri, .int .i64 a8.Part, .int .i64 a8.U, .int .i64 a8.V]] [RE.rd k_Ar4_Int A1 cp2 a0.Color, RE.rd kInt A5 cp6 a0.Depth, RE.rd kInt A9 cp10 a0.Item, RE.rd kInt A13 cp14 a0.Tri] := H.below H2.base
  clear H2
  refine ⟨_, rfl, ?_⟩
  show RL _ _ _ _ _ _ _
  refine RL_pure (by exact wn0 rfl) (by rfl) (by rfl) (x_move (v := .bool v31) (by rfl)) ?_
  obtain ⟨b33, hmS, hm⟩ := bind_some hm
  refine RL_cut 6 (fun r' w' => Agr [(41, .bool b33), (2, .int .i64 a2), (3, .int .i64 a3), (6, .int .i64 a6), (7, .int .i64 a7), (9, .pointer (some ⟨b17, 0, none⟩)), (10, .pointer (some ⟨b19, 0, none⟩)), (13, .pointer (some ⟨b21, 0, none⟩)), (14, .pointer (some ⟨b23, 0, none⟩)), (17, .pointer (some ⟨b25, 0, none⟩)), (19, .bool v28)] r' ∧ Sep ok w w' [.blk b17 25 [.int .i64 a0.W, .int .i64 a0.H, .slice A1 a0.Color.length cp2, .slice A5 a0.Depth.length cp6, .slice A9 a0.Item.length cp10, .slice A13 a0.Tri.length cp14], .blk b19 32 [.int .i64 a1.Rect.X0, .int .i64 a1.Rect.Y0, .int .i64 a1.Rect.X1, .int .i64 a1.Rect.Y1, .int .i64 a1.D], .blk b21 68 [.int .i64 a4.D, .int .i64 a4.Item, .int .i64 a4.Tri, .int .i64 a4.Part, .int .i64 a4.U, .int .i64 a4.V], .blk b23 61 [.int .u8 a5.a0, .int .u8 a5.a1, .int .u8 a5.a2, .int .u8 a5.a3], .blk b25 68 [.int .i64 a8.D, .int .i64 a8.Item, .int .i64 a8.Tri, .int .i64 a8.Part, .int .i64 a8.U, .int .i64 a8.V]] [RE.rd k_Ar4_Int A1 cp2 a0.Color, RE.rd kInt A5 cp6 a0.Depth, RE.rd kInt A9 cp10 a0.Item, RE.rd kInt A13 cp14 a0.Tri]) ?_ ?_
  ·cases hbS : v31
   ·have hm := cond_f hbS hmS
    refine RL_pure (by exact wn1 rfl rfl rfl rfl) (by rfl) (by rfl) (x_move (v := .int .i64 a2) (by rfl)) ?_
    refine RL_pure (by exact wn1 rfl rfl rfl rfl) (by rfl) (by rfl) (x_fieldAddr fo32_0 (by rfl)) ?_
    refine RL_pure (by exact wn1 rfl rfl rfl rfl) (by rfl) (by rfl) (x_fieldAddr fo30_0 (by rfl)) ?_
    refine RL_pure (by exact wn1 rfl rfl rfl rfl) (by rfl) (by rfl) (x_load (j := 0) (v := .int .i64 a1.Rect.X0) sc3 (by rfl) (H.cells (i := 1) (by rfl)) (by rfl)) ?_
    refine RL_pure (by exact wn1 rfl rfl rfl rfl) (by rfl) (by rfl) (x_lss (by rfl) (by rfl)) ?_
    refine RL_pure (by exact wn0 rfl) (by rfl) (by rfl) (x_pick_f (v := .bool (decide (a2 < a1.Rect.X0))) (by rfl) (by rfl)) ?_
    refine RL_nil ?_
    exact ⟨⟨congrArg Value.bool (Option.some.inj hm), rfl, rfl, rfl, rfl, rfl, rfl, rfl, rfl, rfl, rfl, trivial⟩, H⟩
   ·have hm := cond_t hbS hmS
    refine RL_cons (OpR_off (by exact wn2 rfl rfl rfl rfl) (by rfl) (by rfl) ?_)
    refine RL_cons (OpR_off (by exact wn2 rfl rfl rfl rfl) (by rfl) (by rfl) ?_)
    refine RL_cons (OpR_off (by exact wn2 rfl rfl rfl rfl) (by rfl) (by rfl) ?_)
    refine RL_cons (OpR_off (by exact wn2 rfl rfl rfl rfl) (by rfl) (by rfl) ?_)
    refine RL_cons (OpR_off (by exact wn2 rfl rfl rfl rfl) (by rfl) (by rfl) ?_)
    refine RL_pure (by exact wn0 rfl) (by rfl) (by rfl) (x_pick_t (v := .bool true) (by rfl) (by rfl)) ?_
    refine RL_nil ?_
    exact ⟨⟨congrArg Value.bool (Option.some.inj hm), rfl, rfl, rfl, rfl, rfl, rfl, rfl, rfl, rfl, rfl, trivial⟩, H⟩
  ·rintro r' w' ⟨hA, H⟩
   obtain ⟨r34, rfl⟩ := regen _ hA; clear hA
   obtain ⟨w35, rfl⟩ : ∃ W : World, W = w' := ⟨_, rfl⟩
   show RL _ _ _ _ _ _ _
   refine RL_pure (by exact wn0 rfl) (by rfl) (by rfl) (x_move (v := .bool b33) (by rfl)) ?_
   obtain ⟨b36, hmS, hm⟩ := bind_some hm
   refine RL_cut 6 (fun r' w' => Agr [(48, .bool b36), (2, .int .i64 a2), (3, .int .i64 a3), (6, .int .i64 a6), (7, .int .i64 a7), (9, .pointer (some ⟨b17, 0, none⟩)), (10, .pointer (some ⟨b19, 0, none⟩)), (13, .pointer (some ⟨b21, 0, none⟩)), (14, .pointer (some ⟨b23, 0, none⟩)), (17, .pointer (some ⟨b25, 0, none⟩)), (19, .bool v28)] r' ∧ Sep ok w w' [.blk b17 25 [.int .i64 a0.W, .int .i64 a0.H, .slice A1 a0.Color.length cp2, .slice A5 a0.Depth.length cp6, .slice A9 a0.Item.length cp10, .slice A13 a0.Tri.length cp14], .blk b19 32 [.int .i64 a1.Rect.X0, .int .i64 a1.Rect.Y0, .int .i64 a1.Rect.X1, .int .i64 a1.Rect.Y1, .int .i64 a1.D], .blk b21 68 [.int .i64 a4.D, .int .i64 a4.Item, .int .i64 a4.Tri, .int .i64 a4.Part, .int .i64 a4.U, .int .i64 a4.V], .blk b23 61 [.int .u8 a5.a0, .int .u8 a5.a1, .int .u8 a5.a2, .int .u8 a5.a3], .blk b25 68 [.int .i64 a8.D, .int .i64 a8.Item, .int .i64 a8.Tri, .int .i64 a8.Part, .int .i64 a8.U, .int .i64 a8.V]] [RE.rd k_Ar4_Int A1 cp2 a0.Color, RE.rd kInt A5 cp6 a0.Depth, RE.rd kInt A9 cp10 a0.Item, RE.rd kInt A13 cp14 a0.Tri]) ?_ ?_
   ·cases hbS : b33
    ·have hm := cond_f hbS hmS
     refine RL_pure (by exact wn1 rfl rfl rfl rfl) (by rfl) (by rfl) (x_move (v := .int .i64 a2) (by rfl)) ?_
     refine RL_pure (by exact wn1 rfl rfl rfl rfl) (by rfl) (by rfl) (x_fieldAddr fo32_0 (by rfl)) ?_
     refine RL_pure (by exact wn1 rfl rfl rfl rfl) (by rfl) (by rfl) (x_fieldAddr fo30_2 (by rfl)) ?_
     refine RL_pure (by exact wn1 rfl rfl rfl rfl) (by rfl) (by rfl) (x_load (j := 2) (v := .int .i64 a1.Rect.X1) sc3 (by rfl) (H.cells (i := 1) (by rfl)) (by rfl)) ?_
     refine RL_pure (by exact wn1 rfl rfl rfl rfl) (by rfl) (by rfl) (x_gtr (by rfl) (by rfl)) ?_
     refine RL_pure (by exact wn0 rfl) (by rfl) (by rfl) (x_pick_f (v := .bool (decide (a1.Rect.X1 < a2))) (by rfl) (by rfl)) ?_
     refine RL_nil ?_
     exact ⟨⟨congrArg Value.bool (Option.some.inj hm), rfl, rfl, rfl, rfl, rfl, rfl, rfl, rfl, rfl, rfl, trivial⟩, H⟩
    ·have hm := cond_t hbS hmS
     refine RL_cons (OpR_off (by exact wn2 rfl rfl rfl rfl) (by rfl) (by rfl) ?_)
     refine RL_cons (OpR_off (by exact wn2 rfl rfl rfl rfl) (by rfl) (by rfl) ?_)
     refine RL_cons (OpR_off (by exact wn2 rfl rfl rfl rfl) (by rfl) (by rfl) ?_)
     refine RL_cons (OpR_off (by exact wn2 rfl rfl rfl rfl) (by rfl) (by rfl) ?_)
     refine RL_cons (OpR_off (by exact wn2 rfl rfl rfl rfl) (by rfl) (by rfl) ?_)
     refine RL_pure (by exact wn0 rfl) (by rfl) (by rfl) (x_pick_t (v := .bool true) (by rfl) (by rfl)) ?_
     refine RL_nil ?_
     exact ⟨⟨congrArg Value.bool (Option.some.inj hm), rfl, rfl, rfl, rfl, rfl, rfl, rfl, rfl, rfl, rfl, trivial⟩, H⟩
   ·rintro r' w' ⟨hA, H⟩
    obtain ⟨r37, rfl⟩ := regen _ hA; clear hA
    obtain ⟨w38, rfl⟩ : ∃ W : World, W = w' := ⟨_, rfl⟩
    show RL _ _ _ _ _ _ _
    refine RL_pure (by exact wn0 rfl) (by rfl) (by rfl) (x_move (v := .bool b36) (by rfl)) ?_
    obtain ⟨b39, hmS, hm⟩ := bind_some hm
    refine RL_cut 6 (fun r' w' => Agr [(55, .bool b39), (2, .int .i64 a2), (3, .int .i64 a3), (6, .int .i64 a6), (7, .int .i64 a7), (9, .pointer (some ⟨b17, 0, none⟩)), (10, .pointer (some ⟨b19, 0, none⟩)), (13, .pointer (some ⟨b21, 0, none⟩)), (14, .pointer (some ⟨b23, 0, none⟩)), (17, .pointer (some ⟨b25, 0, none⟩)), (19, .bool v28)] r' ∧ Sep ok w w' [.blk b17 25 [.int .i64 a0.W, .int .i64 a0.H, .slice A1 a0.Color.length cp2, .slice A5 a0.Depth.length cp6, .slice A9 a0.Item.length cp10, .slice A13 a0.Tri.length cp14], .blk b19 32 [.int .i64 a1.Rect.X0, .int .i64 a1.Rect.Y0, .int .i64 a1.Rect.X1, .int .i64 a1.Rect.Y1, .int .i64 a1.D], .blk b21 68 [.int .i64 a4.D, .int .i64 a4.Item, .int .i64 a4.Tri, .int .i64 a4.Part, .int .i64 a4.U, .int .i64 a4.V], .blk b23 61 [.int .u8 a5.a0, .int .u8 a5.a1, .int .u8 a5.a2, .int .u8 a5.a3], .blk b25 68 [.int .i64 a8.D, .int .i64 a8.Item, .int .i64 a8.Tri, .int .i64 a8.Part, .int .i64 a8.U, .int .i64 a8.V]] [RE.rd k_Ar4_Int A1 cp2 a0.Color, RE.rd kInt A5 cp6 a0.Depth, RE.rd kInt A9 cp10 a0.Item, RE.rd kInt A13 cp14 a0.Tri]) ?_ ?_
    ·cases hbS : b36
     ·have hm := cond_f hbS hmS
      refine RL_pure (by exact wn1 rfl rfl rfl rfl) (by rfl) (by rfl) (x_move (v := .int .i64 a3) (by rfl)) ?_
      refine RL_pure (by exact wn1 rfl rfl rfl rfl) (by rfl) (by rfl) (x_fieldAddr fo32_0 (by rfl)) ?_
      refine RL_pure (by exact wn1 rfl rfl rfl rfl) (by rfl) (by rfl) (x_fieldAddr fo30_1 (by rfl)) ?_
      refine RL_pure (by exact wn1 rfl rfl rfl rfl) (by rfl) (by rfl) (x_load (j := 1) (v := .int .i64 a1.Rect.Y0) sc3 (by rfl) (H.cells (i := 1) (by rfl)) (by rfl)) ?_
      refine RL_pure (by exact wn1 rfl rfl rfl rfl) (by rfl) (by rfl) (x_lss (by rfl) (by rfl)) ?_
      refine RL_pure (by exact wn0 rfl) (by rfl) (by rfl) (x_pick_f (v := .bool (decide (a3 < a1.Rect.Y0))) (by rfl) (by rfl)) ?_
      refine RL_nil ?_
      exact ⟨⟨congrArg Value.bool (Option.some.inj hm), rfl, rfl, rfl, rfl, rfl, rfl, rfl, rfl, rfl, rfl, trivial⟩, H⟩
     ·have hm := cond_t hbS hmS
      refine RL_cons (OpR_off (by exact wn2 rfl rfl rfl rfl) (by rfl) (by rfl) ?_)
      refine RL_cons (OpR_off (by exact wn2 rfl rfl rfl rfl) (by rfl) (by rfl) ?_)
      refine RL_cons (OpR_off (by exact wn2 rfl rfl rfl rfl) (by rfl) (by rfl) ?_)
      refine RL_cons (OpR_off (by exact wn2 rfl rfl rfl rfl) (by rfl) (by rfl) ?_)
      refine RL_cons (OpR_off (by exact wn2 rfl rfl rfl rfl) (by rfl) (by rfl) ?_)
      refine RL_pure (by exact wn0 rfl) (by rfl) (by rfl) (x_pick_t (v := .bool true) (by rfl) (by rfl)) ?_
      refine RL_nil ?_
      exact ⟨⟨congrArg Value.bool (Option.some.inj hm), rfl, rfl, rfl, rfl, rfl, rfl, rfl, rfl, rfl, rfl, trivial⟩, H⟩
    ·rintro r' w' ⟨hA, H⟩
     obtain ⟨r40, rfl⟩ := regen _ hA; clear hA
     obtain ⟨w41, rfl⟩ : ∃ W : World, W = w' := ⟨_, rfl⟩
     show RL _ _ _ _ _ _ _
     refine RL_pure (by exact wn0 rfl) (by rfl) (by rfl) (x_move (v := .bool b39) (by rfl)) ?_
     obtain ⟨b42, hmS, hm⟩ := bind_some hm
     refine RL_cut 6 (fun r' w' => Agr [(62, .bool b42), (2, .int .i64 a2), (3, .int .i64 a3), (6, .int .i64 a6), (7, .int .i64 a7), (9, .pointer (some ⟨b17, 0, none⟩)), (10, .pointer (some ⟨b19, 0, none⟩)), (13, .pointer (some ⟨b21, 0, none⟩)), (14, .pointer (some ⟨b23, 0, none⟩)), (17, .pointer (some ⟨b25, 0, none⟩)), (19, .bool v28)] r' ∧ Sep ok w w' [.blk b17 25 [.int .i64 a0.W, .int .i64 a0.H, .slice A1 a0.Color.length cp2, .slice A5 a0.Depth.length cp6, .slice A9 a0.Item.length cp10, .slice A13 a0.Tri.length cp14], .blk b19 32 [.int .i64 a1.Rect.X0, .int .i64 a1.Rect.Y0, .int .i64 a1.Rect.X1, .int .i64 a1.Rect.Y1, .int .i64 a1.D], .blk b21 68 [.int .i64 a4.D, .int .i64 a4.Item, .int .i64 a4.Tri, .int .i64 a4.Part, .int .i64 a4.U, .int .i64 a4.V], .blk b23 61 [.int .u8 a5.a0, .int .u8 a5.a1, .int .u8 a5.a2, .int .u8 a5.a3], .blk b25 68 [.int .i64 a8.D, .int .i64 a8.Item, .int .i64 a8.Tri, .int .i64 a8.Part, .int .i64 a8.U, .int .i64 a8.V]] [RE.rd k_Ar4_Int A1 cp2 a0.Color, RE.rd kInt A5 cp6 a0.Depth, RE.rd kInt A9 cp10 a0.Item, RE.rd kInt A13 cp14 a0.Tri]) ?_ ?_
     ·cases hbS : b39
      ·have hm := cond_f hbS hmS
       refine RL_pure (by exact wn1 rfl rfl rfl rfl) (by rfl) (by rfl) (x_move (v := .int .i64 a3) (by rfl)) ?_
       refine RL_pure (by exact wn1 rfl rfl rfl rfl) (by rfl) (by rfl) (x_fieldAddr fo32_0 (by rfl)) ?_
       refine RL_pure (by exact wn1 rfl rfl rfl rfl) (by rfl) (by rfl) (x_fieldAddr fo30_3 (by rfl)) ?_
       refine RL_pure (by exact wn1 rfl rfl rfl rfl) (by rfl) (by rfl) (x_load (j := 3) (v := .int .i64 a1.Rect.Y1) sc3 (by rfl) (H.cells (i := 1) (by rfl)) (by rfl)) ?_
       refine RL_pure (by exact wn1 rfl rfl rfl rfl) (by rfl) (by rfl) (x_gtr (by rfl) (by rfl)) ?_
       refine RL_pure (by exact wn0 rfl) (by rfl) (by rfl) (x_pick_f (v := .bool (decide (a1.Rect.Y1 < a3))) (by rfl) (by rfl)) ?_
       refine RL_nil ?_
       exact ⟨⟨congrArg Value.bool (Option.some.inj hm), rfl, rfl, rfl, rfl, rfl, rfl, rfl, rfl, rfl, rfl, trivial⟩, H⟩
      ·have hm := cond_t hbS hmS
       refine RL_cons (OpR_off (by exact wn2 rfl rfl rfl rfl) (by rfl) (by rfl) ?_)
       refine RL_cons (OpR_off (by exact wn2 rfl rfl rfl rfl) (by rfl) (by rfl) ?_)
       refine RL_cons (OpR_off (by exact wn2 rfl rfl rfl rfl) (by rfl) (by rfl) ?_)
       refine RL_cons (OpR_off (by exact wn2 rfl rfl rfl rfl) (by rfl) (by rfl) ?_)
       refine RL_cons (OpR_off (by exact wn2 rfl rfl rfl rfl) (by rfl) (by rfl) ?_)
       refine RL_pure (by exact wn0 rfl) (by rfl) (by rfl) (x_pick_t (v := .bool true) (by rfl) (by rfl)) ?_
       refine RL_nil ?_
       exact ⟨⟨congrArg Value.bool (Option.some.inj hm), rfl, rfl, rfl, rfl, rfl, rfl, rfl, rfl, rfl, rfl, trivial⟩, H⟩
     ·rintro r' w' ⟨hA, H⟩
      obtain ⟨r43, rfl⟩ := regen _ hA; clear hA
      obtain ⟨w44, rfl⟩ : ∃ W : World, W = w' := ⟨_, rfl⟩
      show RL _ _ _ _ _ _ _
      refine RL_pure (by exact wn0 rfl) (by rfl) (by rfl) (x_move (v := .bool b42) (by rfl)) ?_
      obtain ⟨b45, hmS, hm⟩ := bind_some hm
      refine RL_cut 6 (fun r' w' => Agr [(69, .bool b45), (2, .int .i64 a2), (3, .int .i64 a3), (6, .int .i64 a6), (7, .int .i64 a7), (9, .pointer (some ⟨b17, 0, none⟩)), (10, .pointer (some ⟨b19, 0, none⟩)), (13, .pointer (some ⟨b21, 0, none⟩)), (14, .pointer (some ⟨b23, 0, none⟩)), (17, .pointer (some ⟨b25, 0, none⟩)), (19, .bool v28)] r' ∧ Sep ok w w' [.blk b17 25 [.int .i64 a0.W, .int .i64 a0.H, .slice A1 a0.Color.length cp2, .slice A5 a0.Depth.length cp6, .slice A9 a0.Item.length cp10, .slice A13 a0.Tri.length cp14], .blk b19 32 [.int .i64 a1.Rect.X0, .int .i64 a1.Rect.Y0, .int .i64 a1.Rect.X1, .int .i64 a1.Rect.Y1, .int .i64 a1.D], .blk b21 68 [.int .i64 a4.D, .int .i64 a4.Item, .int .i64 a4.Tri, .int .i64 a4.Part, .int .i64 a4.U, .int .i64 a4.V], .blk b23 61 [.int .u8 a5.a0, .int .u8 a5.a1, .int .u8 a5.a2, .int .u8 a5.a3], .blk b25 68 [.int .i64 a8.D, .int .i64 a8.Item, .int .i64 a8.Tri, .int .i64 a8.Part, .int .i64 a8.U, .int .i64 a8.V]] [RE.rd k_Ar4_Int A1 cp2 a0.Color, RE.rd kInt A5 cp6 a0.Depth, RE.rd kInt A9 cp10 a0.Item, RE.rd kInt A13 cp14 a0.Tri]) ?_ ?_
      ·cases hbS : b42
       ·have hm := cond_f hbS hmS
        refine RL_pure (by exact wn1 rfl rfl rfl rfl) (by rfl) (by rfl) (x_fieldAddr fo68_0 (by rfl)) ?_
        refine RL_pure (by exact wn1 rfl rfl rfl rfl) (by rfl) (by rfl) (x_load (j := 0) (v := .int .i64 a4.D) sc3 (by rfl) (H.cells (i := 2) (by rfl)) (by rfl)) ?_
        refine RL_pure (by exact wn1 rfl rfl rfl rfl) (by rfl) (by rfl) (x_fieldAddr fo32_1 (by rfl)) ?_
        refine RL_pure (by exact wn1 rfl rfl rfl rfl) (by rfl) (by rfl) (x_load (j := 4) (v := .int .i64 a1.D) sc3 (by rfl) (H.cells (i := 1) (by rfl)) (by rfl)) ?_
        refine RL_pure (by exact wn1 rfl rfl rfl rfl) (by rfl) (by rfl) (x_gtr (by rfl) (by rfl)) ?_
        refine RL_pure (by exact wn0 rfl) (by rfl) (by rfl) (x_pick_f (v := .bool (decide (a1.D < a4.D))) (by rfl) (by rfl)) ?_
        refine RL_nil ?_
        exact ⟨⟨congrArg Value.bool (Option.some.inj hm), rfl, rfl, rfl, rfl, rfl, rfl, rfl, rfl, rfl, rfl, trivial⟩, H⟩
       ·have hm := cond_t hbS hmS
        refine RL_cons (OpR_off (by exact wn2 rfl rfl rfl rfl) (by rfl) (by rfl) ?_)
        refine RL_cons (OpR_off (by exact wn2 rfl rfl rfl rfl) (by rfl) (by rfl) ?_)
        refine RL_cons (OpR_off (by exact wn2 rfl rfl rfl rfl) (by rfl) (by rfl) ?_)
        refine RL_cons (OpR_off (by exact wn2 rfl rfl rfl rfl) (by rfl) (by rfl) ?_)
        refine RL_cons (OpR_off (by exact wn2 rfl rfl rfl rfl) (by rfl) (by rfl) ?_)
        refine RL_pure (by exact wn0 rfl) (by rfl) (by rfl) (x_pick_t (v := .bool true) (by rfl) (by rfl)) ?_
        refine RL_nil ?_
        exact ⟨⟨congrArg Value.bool (Option.some.inj hm), rfl, rfl, rfl, rfl, rfl, rfl, rfl, rfl, rfl, rfl, trivial⟩, H⟩
      ·rintro r' w' ⟨hA, H⟩
       obtain ⟨r46, rfl⟩ := regen _ hA; clear hA
       obtain ⟨w47, rfl⟩ : ∃ W : World, W = w' := ⟨_, rfl⟩
       show RL _ _ _ _ _ _ _
       refine RL_nil ?_
       refine W_cond (by rfl) (fun hb => ?_) (fun hb => ?_)
       ·have hm := cond_t hb hm
        refine W_seq ?_
        refine W_region ?_
        refine RL_pure (by exact wn0 rfl) (by rfl) (by rfl) (x_move (v := .bool v28) (by rfl)) ?_
        refine RL_pure (by exact wn0 rfl) (by rfl) (by rfl) (x_assign (v := .bool v28) (by rfl)) ?_
        refine RL_nil ?_
        refine W_ret ?_
        obtain rfl := Option.some.inj hm
        exact ⟨[.bool v28], (.tmp (by rfl) rfl), rfl, H.none_⟩
       ·have hm := cond_f hb hm
        refine W_skip ?_
        refine W_seq ?_
        refine W_region ?_
        refine RL_pure (by exact wn0 rfl) (by rfl) (by rfl) (x_loadA (j := 0) (vs := [.int .i64 a0.W, .int .i64 a0.H, .slice A1 a0.Color.length cp2, .slice A5 a0.Depth.length cp6, .slice A9 a0.Item.length cp10, .slice A13 a0.Tri.length cp14]) ag25 (by rfl) (H.cells (i := 0) (by rfl)) (by rfl) (by rfl)) ?_
        obtain ⟨v49, hv48, hm⟩ := bind_some hm
        refine RL_cons (O_call (by exact wn0 rfl) (by rfl) (by rfl) (x_callL (by rfl) (args := [.agg #[.int .i64 a0.W, .int .i64 a0.H, .slice A1 a0.Color.length cp2, .slice A5 a0.Depth.length cp6, .slice A9 a0.Item.length cp10, .slice A13 a0.Tri.length cp14]]) (by rfl) (cf15 _ _)) (c15 (okS ok w [.blk b17 25 [.int .i64 a0.W, .int .i64 a0.H, .slice A1 a0.Color.length cp2, .slice A5 a0.Depth.length cp6, .slice A9 a0.Item.length cp10, .slice A13 a0.Tri.length cp14], .blk b19 32 [.int .i64 a1.Rect.X0, .int .i64 a1.Rect.Y0, .int .i64 a1.Rect.X1, .int .i64 a1.Rect.Y1, .int .i64 a1.D], .blk b21 68 [.int .i64 a4.D, .int .i64 a4.Item, .int .i64 a4.Tri, .int .i64 a4.Part, .int .i64 a4.U, .int .i64 a4.V], .blk b23 61 [.int .u8 a5.a0, .int .u8 a5.a1, .int .u8 a5.a2, .int .u8 a5.a3], .blk b25 68 [.int .i64 a8.D, .int .i64 a8.Item, .int .i64 a8.Tri, .int .i64 a8.Part, .int .i64 a8.U, .int .i64 a8.V]]) K w47 a0 A1 cp2 A5 cp6 A9 cp10 A13 cp14 (H.rd (i := 0) (by rfl)) (H.rd (i := 1) (by rfl)) (H.rd (i := 2) (by rfl)) (H.rd (i := 3) (by rfl)) v49 hv48) ?_)
        rintro e w50 ⟨A51, cp52, rfl, H2⟩
        have H : Sep ok w w50 [.blk b17 25 [.int .i64 a0.W, .int .i64 a0.H, .slice A1 a0.Color.length cp2, .slice A5 a0.Depth.length cp6, .slice A9 a0.Item.length cp10, .slice A13 a0.Tri.length cp14], .blk b19 32 [.int .i64 a1.Rect.X0, .int .i64 a1.Rect.Y0, .int .i64 a1.Rect.X1, .int .i64 a1.Rect.Y1, .int .i64 a1.D], .blk b21 68 [.int .i64 a4.D, .int .i64 a4.Item, .int .i64 a4.Tri, .int .i64 a4.Part, .int .i64 a4.U, .int .i64 a4.V], .blk b23 61 [.int .u8 a5.a0, .int .u8 a5.a1, .int .u8 a5.a2, .int .u8 a5.a3], .blk b25 68 [.int .i64 a8.D, .int .i64 a8.Item, .int .i64 a8.Tri, .int .i64 a8.Part, .int .i64 a8.U, .int .i64 a8.V]] [RE.rd k_Ar4_Int A1 cp2 a0.Color, RE.rd kInt A5 cp6 a0.Depth, RE.rd kInt A9 cp10 a0.Item, RE.rd kInt A13 cp14 a0.Tri, RE.rd k_Level A51 cp52 v49.1.Levels] := H.call H2
        clear H2
        refine ⟨_, rfl, ?_⟩
        show RL _ _ _ _ _ _ _
        refine RL_pure (by exact wn0 rfl) (by rfl) (by rfl) (x_move (v := tup [.agg #[.slice A51 v49.1.Levels.length cp52], .int .i64 v49.2]) (by rfl)) ?_
        refine RL_pure (by exact wn0 rfl) (by rfl) (by rfl) (x_extract (v := .agg #[.slice A51 v49.1.Levels.length cp52]) (by rfl) (by rfl)) ?_
        refine RL_pure (by exact wn0 rfl) (by rfl) (by rfl) (x_extract (v := .int .i64 v49.2) (by rfl) (by rfl)) ?_
        refine RL_cons (O_alloc (by exact wn0 rfl) (by rfl) ze28 (by rfl) H (fun w55 b54 (H : Sep ok w w55 [.blk b17 25 [.int .i64 a0.W, .int .i64 a0.H, .slice A1 a0.Color.length cp2, .slice A5 a0.Depth.length cp6, .slice A9 a0.Item.length cp10, .slice A13 a0.Tri.length cp14], .blk b19 32 [.int .i64 a1.Rect.X0, .int .i64 a1.Rect.Y0, .int .i64 a1.Rect.X1, .int .i64 a1.Rect.Y1, .int .i64 a1.D], .blk b21 68 [.int .i64 a4.D, .int .i64 a4.Item, .int .i64 a4.Tri, .int .i64 a4.Part, .int .i64 a4.U, .int .i64 a4.V], .blk b23 61 [.int .u8 a5.a0, .int .u8 a5.a1, .int .u8 a5.a2, .int .u8 a5.a3], .blk b25 68 [.int .i64 a8.D, .int .i64 a8.Item, .int .i64 a8.Tri, .int .i64 a8.Part, .int .i64 a8.U, .int .i64 a8.V], .blk b54 28 [.slice none 0 0]] [RE.rd k_Ar4_Int A1 cp2 a0.Color, RE.rd kInt A5 cp6 a0.Depth, RE.rd kInt A9 cp10 a0.Item, RE.rd kInt A13 cp14 a0.Tri, RE.rd k_Level A51 cp52 v49.1.Levels]) => ?_))
        refine RL_cons (O_store (i := 5) (off := 0) (by exact wn0 rfl) (by rfl) (by rfl) H (by rfl) (vs := [.slice A51 v49.1.Levels.length cp52]) (by rfl) sz28 (by rfl) (by rfl) (by rfl) (fun w56 (H : Sep ok w w56 [.blk b17 25 [.int .i64 a0.W, .int .i64 a0.H, .slice A1 a0.Color.length cp2, .slice A5 a0.Depth.length cp6, .slice A9 a0.Item.length cp10, .slice A13 a0.Tri.length cp14], .blk b19 32 [.int .i64 a1.Rect.X0, .int .i64 a1.Rect.Y0, .int .i64 a1.Rect.X1, .int .i64 a1.Rect.Y1, .int .i64 a1.D], .blk b21 68 [.int .i64 a4.D, .int .i64 a4.Item, .int .i64 a4.Tri, .int .i64 a4.Part, .int .i64 a4.U, .int .i64 a4.V], .blk b23 61 [.int .u8 a5.a0, .int .u8 a5.a1, .int .u8 a5.a2, .int .u8 a5.a3], .blk b25 68 [.int .i64 a8.D, .int .i64 a8.Item, .int .i64 a8.Tri, .int .i64 a8.Part, .int .i64 a8.U, .int .i64 a8.V], .blk b54 28 [.slice A51 v49.1.Levels.length cp52]] [RE.rd k_Ar4_Int A1 cp2 a0.Color, RE.rd kInt A5 cp6 a0.Depth, RE.rd kInt A9 cp10 a0.Item, RE.rd kInt A13 cp14 a0.Tri, RE.rd k_Level A51 cp52 v49.1.Levels]) => ?_))
        refine RL_pure (by exact wn0 rfl) (by rfl) (by rfl) (x_assign (v := .int .i64 v49.2) (by rfl)) ?_
        refine RL_nil ?_
        refine W_seq ?_
        refine W_region ?_
        refine RL_pure (by exact wn0 rfl) (by rfl) (by rfl) (x_loadA (j := 0) (vs := [.slice A51 v49.1.Levels.length cp52]) ag28 (by rfl) (H.cells (i := 5) (by rfl)) (by rfl) (by rfl)) ?_
        refine RL_pure (by exact wn0 rfl) (by rfl) (by rfl) (x_loadA (j := 0) (vs := [.int .i64 a1.Rect.X0, .int .i64 a1.Rect.Y0, .int .i64 a1.Rect.X1, .int .i64 a1.Rect.Y1, .int .i64 a1.D]) ag32 (by rfl) (H.cells (i := 1) (by rfl)) (by rfl) (by rfl)) ?_
        obtain ⟨v58, hv57, hm⟩ := bind_some hm
        refine RL_cons (O_call (by exact wn0 rfl) (by rfl) (by rfl) (x_callL (by rfl) (args := [.agg #[.slice A51 v49.1.Levels.length cp52], .agg #[.int .i64 a1.Rect.X0, .int .i64 a1.Rect.Y0, .int .i64 a1.Rect.X1, .int .i64 a1.Rect.Y1, .int .i64 a1.D]]) (by rfl) (cf19 _ _)) (c19 (fun _ => True) K w56 v49.1 A51 cp52 a1 (H.rd (i := 4) (by rfl)).any v58 hv57) ?_)
        rintro e w59 ⟨rfl, H2⟩
        have H : Sep ok w w59 [.blk b17 25 [.int .i64 a0.W, .int .i64 a0.H, .slice A1 a0.Color.length cp2, .slice A5 a0.Depth.length cp6, .slice A9 a0.Item.length cp10, .slice A13 a0.Tri.length cp14], .blk b19 32 [.int .i64 a1.Rect.X0, .int .i64 a1.Rect.Y0, .int .i64 a1.Rect.X1, .int .i64 a1.Rect.Y1, .int .i64 a1.D], .blk b21 68 [.int .i64 a4.D, .int .i64 a4.Item, .int .i64 a4.Tri, .int .i64 a4.Part, .int .i64 a4.U, .int .i64 a4.V], .blk b23 61 [.int .u8 a5.a0, .int .u8 a5.a1, .int .u8 a5.a2, .int .u8 a5.a3], .blk b25 68 [.int .i64 a8.D, .int .i64 a8.Item, .int .i64 a8.Tri, .int .i64 a8.Part, .int .i64 a8.U, .int .i64 a8.V], .blk b54 28 [.slice A51 v49.1.Levels.length cp52]] [RE.rd k_Ar4_Int A1 cp2 a0.Color, RE.rd kInt A5 cp6 a0.Depth, RE.rd kInt A9 cp10 a0.Item, RE.rd kInt A13 cp14 a0.Tri, RE.rd k_Level A51 cp52 v49.1.Levels] := H.below H2.base
        clear H2
        refine ⟨_, rfl, ?_⟩
        show RL _ _ _ _ _ _ _
        refine RL_pure (by exact wn0 rfl) (by rfl) (by rfl) (x_move (v := tup [.bool v58.1, .int .i64 v58.2]) (by rfl)) ?_
        refine RL_pure (by exact wn0 rfl) (by rfl) (by rfl) (x_extract (v := .bool v58.1) (by rfl) (by rfl)) ?_
        refine RL_pure (by exact wn0 rfl) (by rfl) (by rfl) (x_extract (v := .int .i64 v58.2) (by rfl) (by rfl)) ?_
        refine RL_pure (by exact wn0 rfl) (by rfl) (by rfl) (x_assign (v := .bool v58.1) (by rfl)) ?_
        refine RL_pure (by exact wn0 rfl) (by rfl) (by rfl) (x_assign (v := .int .i64 v58.2) (by rfl)) ?_
        refine RL_nil ?_
        refine W_seq ?_
        refine W_seq ?_
        refine W_region ?_
        refine RL_pure (by exact wn0 rfl) (by rfl) (by rfl) (x_move (v := .int .i64 v49.2) (by rfl)) ?_
        refine RL_pure (by exact wn0 rfl) (by rfl) (by rfl) (x_neq (by rfl) (by rfl)) ?_
        refine RL_pure (by exact wn0 rfl) (by rfl) (by rfl) (x_move (v := .bool (v49.2 != 0)) (by rfl)) ?_
        obtain ⟨b60, hmS, hm⟩ := bind_some hm
        refine RL_cut 3 (fun r' w' => Agr [(87, .bool b60), (2, .int .i64 a2), (3, .int .i64 a3), (6, .int .i64 a6), (7, .int .i64 a7), (9, .pointer (some ⟨b17, 0, none⟩)), (13, .pointer (some ⟨b21, 0, none⟩)), (14, .pointer (some ⟨b23, 0, none⟩)), (17, .pointer (some ⟨b25, 0, none⟩)), (19, .bool v28), (20, .pointer (some ⟨b54, 0, none⟩)), (22, .bool v58.1), (23, .int .i64 v58.2)] r' ∧ Sep ok w w' [.blk b17 25 [.int .i64 a0.W, .int .i64 a0.H, .slice A1 a0.Color.length cp2, .slice A5 a0.Depth.length cp6, .slice A9 a0.Item.length cp10, .slice A13 a0.Tri.length cp14], .blk b19 32 [.int .i64 a1.Rect.X0, .int .i64 a1.Rect.Y0, .int .i64 a1.Rect.X1, .int .i64 a1.Rect.Y1, .int .i64 a1.D], .blk b21 68 [.int .i64 a4.D, .int .i64 a4.Item, .int .i64 a4.Tri, .int .i64 a4.Part, .int .i64 a4.U, .int .i64 a4.V], .blk b23 61 [.int .u8 a5.a0, .int .u8 a5.a1, .int .u8 a5.a2, .int .u8 a5.a3], .blk b25 68 [.int .i64 a8.D, .int .i64 a8.Item, .int .i64 a8.Tri, .int .i64 a8.Part, .int .i64 a8.U, .int .i64 a8.V], .blk b54 28 [.slice A51 v49.1.Levels.length cp52]] [RE.rd k_Ar4_Int A1 cp2 a0.Color, RE.rd kInt A5 cp6 a0.Depth, RE.rd kInt A9 cp10 a0.Item, RE.rd kInt A13 cp14 a0.Tri, RE.rd k_Level A51 cp52 v49.1.Levels]) ?_ ?_
        ·cases hbS : (v49.2 != 0)
         ·have hm := cond_f hbS hmS
          refine RL_pure (by exact wn1 rfl rfl rfl rfl) (by rfl) (by rfl) (x_move (v := .int .i64 v58.2) (by rfl)) ?_
          refine RL_pure (by exact wn1 rfl rfl rfl rfl) (by rfl) (by rfl) (x_neq (by rfl) (by rfl)) ?_
          refine RL_pure (by exact wn0 rfl) (by rfl) (by rfl) (x_pick_f (v := .bool (v58.2 != 0)) (by rfl) (by rfl)) ?_
          refine RL_nil ?_
          exact ⟨⟨congrArg Value.bool (Option.some.inj hm), rfl, rfl, rfl, rfl, rfl, rfl, rfl, rfl, rfl, rfl, rfl, rfl, trivial⟩, H⟩
         ·have hm := cond_t hbS hmS
          refine RL_cons (OpR_off (by exact wn2 rfl rfl rfl rfl) (by rfl) (by rfl) ?_)
          refine RL_cons (OpR_off (by exact wn2 rfl rfl rfl rfl) (by rfl) (by rfl) ?_)
          refine RL_pure (by exact wn0 rfl) (by rfl) (by rfl) (x_pick_t (v := .bool true) (by rfl) (by rfl)) ?_
          refine RL_nil ?_
          exact ⟨⟨congrArg Value.bool (Option.some.inj hm), rfl, rfl, rfl, rfl, rfl, rfl, rfl, rfl, rfl, rfl, rfl, rfl, trivial⟩, H⟩
        ·rintro r' w' ⟨hA, H⟩
         obtain ⟨r61, rfl⟩ := regen _ hA; clear hA
         obtain ⟨w62, rfl⟩ : ∃ W : World, W = w' := ⟨_, rfl⟩
         show RL _ _ _ _ _ _ _
         refine RL_pure (by exact wn0 rfl) (by rfl) (by rfl) (x_move (v := .bool b60) (by rfl)) ?_
         obtain ⟨b63, hmS, hm⟩ := bind_some hm
         refine RL_cut 3 (fun r' w' => Agr [(91, .bool b63), (2, .int .i64 a2), (3, .int .i64 a3), (6, .int .i64 a6), (7, .int .i64 a7), (9, .pointer (some ⟨b17, 0, none⟩)), (13, .pointer (some ⟨b21, 0, none⟩)), (14, .pointer (some ⟨b23, 0, none⟩)), (17, .pointer (some ⟨b25, 0, none⟩)), (19, .bool v28), (20, .pointer (some ⟨b54, 0, none⟩)), (22, .bool v58.1), (23, .int .i64 v58.2)] r' ∧ Sep ok w w' [.blk b17 25 [.int .i64 a0.W, .int .i64 a0.H, .slice A1 a0.Color.length cp2, .slice A5 a0.Depth.length cp6, .slice A9 a0.Item.length cp10, .slice A13 a0.Tri.length cp14], .blk b19 32 [.int .i64 a1.Rect.X0, .int .i64 a1.Rect.Y0, .int .i64 a1.Rect.X1, .int .i64 a1.Rect.Y1, .int .i64 a1.D], .blk b21 68 [.int .i64 a4.D, .int .i64 a4.Item, .int .i64 a4.Tri, .int .i64 a4.Part, .int .i64 a4.U, .int .i64 a4.V], .blk b23 61 [.int .u8 a5.a0, .int .u8 a5.a1, .int .u8 a5.a2, .int .u8 a5.a3], .blk b25 68 [.int .i64 a8.D, .int .i64 a8.Item, .int .i64 a8.Tri, .int .i64 a8.Part, .int .i64 a8.U, .int .i64 a8.V], .blk b54 28 [.slice A51 v49.1.Levels.length cp52]] [RE.rd k_Ar4_Int A1 cp2 a0.Color, RE.rd kInt A5 cp6 a0.Depth, RE.rd kInt A9 cp10 a0.Item, RE.rd kInt A13 cp14 a0.Tri, RE.rd k_Level A51 cp52 v49.1.Levels]) ?_ ?_
         ·cases hbS : b60
          ·have hm := cond_f hbS hmS
           refine RL_pure (by exact wn1 rfl rfl rfl rfl) (by rfl) (by rfl) (x_move (v := .bool v58.1) (by rfl)) ?_
           refine RL_pure (by exact wn1 rfl rfl rfl rfl) (by rfl) (by rfl) (x_not (by rfl)) ?_
           refine RL_pure (by exact wn0 rfl) (by rfl) (by rfl) (x_pick_f (v := .bool (!v58.1)) (by rfl) (by rfl)) ?_
           refine RL_nil ?_
           exact ⟨⟨congrArg Value.bool (Option.some.inj hm), rfl, rfl, rfl, rfl, rfl, rfl, rfl, rfl, rfl, rfl, rfl, rfl, trivial⟩, H⟩
          ·have hm := cond_t hbS hmS
           refine RL_cons (OpR_off (by exact wn2 rfl rfl rfl rfl) (by rfl) (by rfl) ?_)
           refine RL_cons (OpR_off (by exact wn2 rfl rfl rfl rfl) (by rfl) (by rfl) ?_)
           refine RL_pure (by exact wn0 rfl) (by rfl) (by rfl) (x_pick_t (v := .bool true) (by rfl) (by rfl)) ?_
           refine RL_nil ?_
           exact ⟨⟨congrArg Value.bool (Option.some.inj hm), rfl, rfl, rfl, rfl, rfl, rfl, rfl, rfl, rfl, rfl, rfl, rfl, trivial⟩, H⟩
         ·rintro r' w' ⟨hA, H⟩
          obtain ⟨r64, rfl⟩ := regen _ hA; clear hA
          obtain ⟨w65, rfl⟩ : ∃ W : World, W = w' := ⟨_, rfl⟩
          show RL _ _ _ _ _ _ _
          refine RL_nil ?_
          refine W_cond (by rfl) (fun hb => ?_) (fun hb => ?_)
          ·have hm := cond_t hb hm
           refine W_seq ?_
           refine W_region ?_
           refine RL_pure (by exact wn0 rfl) (by rfl) (by rfl) (x_move (v := .bool v28) (by rfl)) ?_
           refine RL_pure (by exact wn0 rfl) (by rfl) (by rfl) (x_move (v := .bool v28) (by rfl)) ?_
           obtain ⟨b66, hmS, hm⟩ := bind_some hm
           refine RL_cut 7 (fun r' w' => Agr [(100, .bool b66)] r' ∧ Sep ok w w' [.blk b17 25 [.int .i64 a0.W, .int .i64 a0.H, .slice A1 a0.Color.length cp2, .slice A5 a0.Depth.length cp6, .slice A9 a0.Item.length cp10, .slice A13 a0.Tri.length cp14], .blk b19 32 [.int .i64 a1.Rect.X0, .int .i64 a1.Rect.Y0, .int .i64 a1.Rect.X1, .int .i64 a1.Rect.Y1, .int .i64 a1.D], .blk b21 68 [.int .i64 a4.D, .int .i64 a4.Item, .int .i64 a4.Tri, .int .i64 a4.Part, .int .i64 a4.U, .int .i64 a4.V], .blk b23 61 [.int .u8 a5.a0, .int .u8 a5.a1, .int .u8 a5.a2, .int .u8 a5.a3], .blk b25 68 [.int .i64 a8.D, .int .i64 a8.Item, .int .i64 a8.Tri, .int .i64 a8.Part, .int .i64 a8.U, .int .i64 a8.V], .blk b54 28 [.slice A51 v49.1.Levels.length cp52]] [RE.rd k_Ar4_Int A1 cp2 a0.Color, RE.rd kInt A5 cp6 a0.Depth, RE.rd kInt A9 cp10 a0.Item, RE.rd kInt A13 cp14 a0.Tri, RE.rd k_Level A51 cp52 v49.1.Levels]) ?_ ?_
           ·cases hbS : v28
            ·have hm := cond_f hbS hmS
             refine RL_cons (OpR_off (by exact wn2 rfl rfl rfl rfl) (by rfl) (by rfl) ?_)
             refine RL_cons (OpR_off (by exact wn2 rfl rfl rfl rfl) (by rfl) (by rfl) ?_)
             refine RL_cons (OpR_off (by exact wn2 rfl rfl rfl rfl) (by rfl) (by rfl) ?_)
             refine RL_cons (OpR_off (by exact wn3 rfl rfl rfl) (by rfl) (by rfl) ?_)
             refine RL_cons (OpR_off (by exact wn3 rfl rfl rfl) (by rfl) (by rfl) ?_)
             refine RL_cons (OpR_off (by exact wn2 rfl rfl rfl rfl) (by rfl) (by rfl) ?_)
             refine RL_pure (by exact wn0 rfl) (by rfl) (by rfl) (x_pick_f (v := .bool false) (by rfl) (by rfl)) ?_
             refine RL_nil ?_
             exact ⟨⟨congrArg Value.bool (Option.some.inj hm), trivial⟩, H⟩
            ·have hm := cond_t hbS hmS
             refine RL_pure (by exact wn1 rfl rfl rfl rfl) (by rfl) (by rfl) (x_move (v := .bool v58.1) (by rfl)) ?_
             refine RL_pure (by exact wn1 rfl rfl rfl rfl) (by rfl) (by rfl) (x_not (by rfl)) ?_
             refine RL_pure (by exact wn1 rfl rfl rfl rfl) (by rfl) (by rfl) (x_move (v := .bool (!v58.1)) (by rfl)) ?_
             obtain ⟨b67, hmS, hm⟩ := bind_some hm
             refine RL_cut 3 (fun r' w' => Agr [(99, .bool b67), (93, .bool true)] r' ∧ Sep ok w w' [.blk b17 25 [.int .i64 a0.W, .int .i64 a0.H, .slice A1 a0.Color.length cp2, .slice A5 a0.Depth.length cp6, .slice A9 a0.Item.length cp10, .slice A13 a0.Tri.length cp14], .blk b19 32 [.int .i64 a1.Rect.X0, .int .i64 a1.Rect.Y0, .int .i64 a1.Rect.X1, .int .i64 a1.Rect.Y1, .int .i64 a1.D], .blk b21 68 [.int .i64 a4.D, .int .i64 a4.Item, .int .i64 a4.Tri, .int .i64 a4.Part, .int .i64 a4.U, .int .i64 a4.V], .blk b23 61 [.int .u8 a5.a0, .int .u8 a5.a1, .int .u8 a5.a2, .int .u8 a5.a3], .blk b25 68 [.int .i64 a8.D, .int .i64 a8.Item, .int .i64 a8.Tri, .int .i64 a8.Part, .int .i64 a8.U, .int .i64 a8.V], .blk b54 28 [.slice A51 v49.1.Levels.length cp52]] [RE.rd k_Ar4_Int A1 cp2 a0.Color, RE.rd kInt A5 cp6 a0.Depth, RE.rd kInt A9 cp10 a0.Item, RE.rd kInt A13 cp14 a0.Tri, RE.rd k_Level A51 cp52 v49.1.Levels]) ?_ ?_
             ·cases hbS : (!v58.1)
              ·have hm := cond_f hbS hmS
               refine RL_pure (by exact wn1 rfl rfl rfl rfl) (by rfl) (by rfl) (x_move (v := .int .i64 v58.2) (by rfl)) ?_
               refine RL_pure (by exact wn1 rfl rfl rfl rfl) (by rfl) (by rfl) (x_eql (by rfl) (by rfl)) ?_
               refine RL_pure (by exact wn1 rfl rfl rfl rfl) (by rfl) (by rfl) (x_pick_f (v := .bool (v58.2 == 0)) (by rfl) (by rfl)) ?_
               refine RL_nil ?_
               exact ⟨⟨congrArg Value.bool (Option.some.inj hm), rfl, trivial⟩, H⟩
              ·have hm := cond_t hbS hmS
               refine RL_cons (OpR_off (by exact wn2 rfl rfl rfl rfl) (by rfl) (by rfl) ?_)
               refine RL_cons (OpR_off (by exact wn2 rfl rfl rfl rfl) (by rfl) (by rfl) ?_)
               refine RL_pure (by exact wn1 rfl rfl rfl rfl) (by rfl) (by rfl) (x_pick_t (v := .bool true) (by rfl) (by rfl)) ?_
               refine RL_nil ?_
               exact ⟨⟨congrArg Value.bool (Option.some.inj hm), rfl, trivial⟩, H⟩
             ·rintro r' w' ⟨hA, H⟩
              obtain ⟨r68, rfl⟩ := regen _ hA; clear hA
              obtain ⟨w69, rfl⟩ : ∃ W : World, W = w' := ⟨_, rfl⟩
              show RL _ _ _ _ _ _ _
              refine RL_pure (by exact wn0 rfl) (by rfl) (by rfl) (x_pick_t (v := .bool b67) (by rfl) (by rfl)) ?_
              refine RL_nil ?_
              exact ⟨⟨congrArg Value.bool (Option.some.inj hm), trivial⟩, H⟩
           ·rintro r' w' ⟨hA, H⟩
            obtain ⟨r70, rfl⟩ := regen _ hA; clear hA
            obtain ⟨w71, rfl⟩ : ∃ W : World, W = w' := ⟨_, rfl⟩
            show RL _ _ _ _ _ _ _
            refine RL_pure (by exact wn0 rfl) (by rfl) (by rfl) (x_assign (v := .bool b66) (by rfl)) ?_
            refine RL_nil ?_
            refine W_ret ?_
            obtain rfl := Option.some.inj hm
            exact ⟨[.bool b66], (.tmp (by rfl) rfl), rfl, H.none_⟩
          ·have hm := cond_f hb hm
           refine W_skip ?_
           refine W_seq ?_
           refine W_region ?_
           refine RL_pure (by exact wn0 rfl) (by rfl) (by rfl) (x_loadA (j := 0) (vs := [.int .i64 a0.W, .int .i64 a0.H, .slice A1 a0.Color.length cp2, .slice A5 a0.Depth.length cp6, .slice A9 a0.Item.length cp10, .slice A13 a0.Tri.length cp14]) ag25 (by rfl) (H.cells (i := 0) (by rfl)) (by rfl) (by rfl)) ?_
           refine RL_pure (by exact wn0 rfl) (by rfl) (by rfl) (x_move (v := .int .i64 a6) (by rfl)) ?_
           refine RL_pure (by exact wn0 rfl) (by rfl) (by rfl) (x_move (v := .int .i64 a7) (by rfl)) ?_
           refine RL_pure (by exact wn0 rfl) (by rfl) (by rfl) (x_loadA (j := 0) (vs := [.int .i64 a8.D, .int .i64 a8.Item, .int .i64 a8.Tri, .int .i64 a8.Part, .int .i64 a8.U, .int .i64 a8.V]) ag68 (by rfl) (H.cells (i := 4) (by rfl)) (by rfl) (by rfl)) ?_
           refine RL_pure (by exact wn0 rfl) (by rfl) (by rfl) (x_loadA (j := 0) (vs := [.int .u8 a5.a0, .int .u8 a5.a1, .int .u8 a5.a2, .int .u8 a5.a3]) ag61 (by rfl) (H.cells (i := 3) (by rfl)) (by rfl) (by rfl)) ?_
           obtain ⟨v73, hv72, hm⟩ := bind_some hm
           refine RL_cons (O_call (by exact wn0 rfl) (by rfl) (by rfl) (x_callL (by rfl) (args := [.agg #[.int .i64 a0.W, .int .i64 a0.H, .slice A1 a0.Color.length cp2, .slice A5 a0.Depth.length cp6, .slice A9 a0.Item.length cp10, .slice A13 a0.Tri.length cp14], .int .i64 a6, .int .i64 a7, .agg #[.int .i64 a8.D, .int .i64 a8.Item, .int .i64 a8.Tri, .int .i64 a8.Part, .int .i64 a8.U, .int .i64 a8.V], .agg #[.int .u8 a5.a0, .int .u8 a5.a1, .int .u8 a5.a2, .int .u8 a5.a3]]) (by rfl) (cf30 _ _)) (c30 (okS ok w [.blk b17 25 [.int .i64 a0.W, .int .i64 a0.H, .slice A1 a0.Color.length cp2, .slice A5 a0.Depth.length cp6, .slice A9 a0.Item.length cp10, .slice A13 a0.Tri.length cp14], .blk b19 32 [.int .i64 a1.Rect.X0, .int .i64 a1.Rect.Y0, .int .i64 a1.Rect.X1, .int .i64 a1.Rect.Y1, .int .i64 a1.D], .blk b21 68 [.int .i64 a4.D, .int .i64 a4.Item, .int .i64 a4.Tri, .int .i64 a4.Part, .int .i64 a4.U, .int .i64 a4.V], .blk b23 61 [.int .u8 a5.a0, .int .u8 a5.a1, .int .u8 a5.a2, .int .u8 a5.a3], .blk b25 68 [.int .i64 a8.D, .int .i64 a8.Item, .int .i64 a8.Tri, .int .i64 a8.Part, .int .i64 a8.U, .int .i64 a8.V], .blk b54 28 [.slice A51 v49.1.Levels.length cp52]]) K w65 a0 A1 cp2 A5 cp6 A9 cp10 A13 cp14 a6 a7 a8 a5 (H.rd (i := 0) (by rfl)) (H.rd (i := 1) (by rfl)) (H.rd (i := 2) (by rfl)) (H.rd (i := 3) (by rfl)) v73 hv72) ?_)
           rintro e w74 ⟨A75, cp76, A78, cp79, A81, cp82, A84, cp85, rfl, H2⟩
           have H : Sep ok w w74 [.blk b17 25 [.int .i64 a0.W, .int .i64 a0.H, .slice A1 a0.Color.length cp2, .slice A5 a0.Depth.length cp6, .slice A9 a0.Item.length cp10, .slice A13 a0.Tri.length cp14], .blk b19 32 [.int .i64 a1.Rect.X0, .int .i64 a1.Rect.Y0, .int .i64 a1.Rect.X1, .int .i64 a1.Rect.Y1, .int .i64 a1.D], .blk b21 68 [.int .i64 a4.D, .int .i64 a4.Item, .int .i64 a4.Tri, .int .i64 a4.Part, .int .i64 a4.U, .int .i64 a4.V], .blk b23 61 [.int .u8 a5.a0, .int .u8 a5.a1, .int .u8 a5.a2, .int .u8 a5.a3], .blk b25 68 [.int .i64 a8.D, .int .i64 a8.Item, .int .i64 a8.Tri, .int .i64 a8.Part, .int .i64 a8.U, .int .i64 a8.V], .blk b54 28 [.slice A51 v49.1.Levels.length cp52]] [RE.rd k_Ar4_Int A1 cp2 a0.Color, RE.rd kInt A5 cp6 a0.Depth, RE.rd kInt A9 cp10 a0.Item, RE.rd kInt A13 cp14 a0.Tri, RE.rd k_Level A51 cp52 v49.1.Levels, RE.rd k_Ar4_Int A75 cp76 v73.1.Color, RE.rd kInt A78 cp79 v73.1.Depth, RE.rd kInt A81 cp82 v73.1.Item, RE.rd kInt A84 cp85 v73.1.Tri] := H.call H2
           clear H2
           refine ⟨_, rfl, ?_⟩
           show RL _ _ _ _ _ _ _
           refine RL_pure (by exact wn0 rfl) (by rfl) (by rfl) (x_move (v := tup [.agg #[.int .i64 v73.1.W, .int .i64 v73.1.H, .slice A75 v73.1.Color.length cp76, .slice A78 v73.1.Depth.length cp79, .slice A81 v73.1.Item.length cp82, .slice A84 v73.1.Tri.length cp85], .int .i64 v73.2]) (by rfl)) ?_
           refine RL_pure (by exact wn0 rfl) (by rfl) (by rfl) (x_extract (v := .agg #[.int .i64 v73.1.W, .int .i64 v73.1.H, .slice A75 v73.1.Color.length cp76, .slice A78 v73.1.Depth.length cp79, .slice A81 v73.1.Item.length cp82, .slice A84 v73.1.Tri.length cp85]) (by rfl) (by rfl)) ?_
           refine RL_pure (by exact wn0 rfl) (by rfl) (by rfl) (x_extract (v := .int .i64 v73.2) (by rfl) (by rfl)) ?_
           refine RL_cons (O_alloc (by exact wn0 rfl) (by rfl) ze25 (by rfl) H (fun w88 b87 (H : Sep ok w w88 [.blk b17 25 [.int .i64 a0.W, .int .i64 a0.H, .slice A1 a0.Color.length cp2, .slice A5 a0.Depth.length cp6, .slice A9 a0.Item.length cp10, .slice A13 a0.Tri.length cp14], .blk b19 32 [.int .i64 a1.Rect.X0, .int .i64 a1.Rect.Y0, .int .i64 a1.Rect.X1, .int .i64 a1.Rect.Y1, .int .i64 a1.D], .blk b21 68 [.int .i64 a4.D, .int .i64 a4.Item, .int .i64 a4.Tri, .int .i64 a4.Part, .int .i64 a4.U, .int .i64 a4.V], .blk b23 61 [.int .u8 a5.a0, .int .u8 a5.a1, .int .u8 a5.a2, .int .u8 a5.a3], .blk b25 68 [.int .i64 a8.D, .int .i64 a8.Item, .int .i64 a8.Tri, .int .i64 a8.Part, .int .i64 a8.U, .int .i64 a8.V], .blk b54 28 [.slice A51 v49.1.Levels.length cp52], .blk b87 25 [.int .i64 0, .int .i64 0, .slice none 0 0, .slice none 0 0, .slice none 0 0, .slice none 0 0]] [RE.rd k_Ar4_Int A1 cp2 a0.Color, RE.rd kInt A5 cp6 a0.Depth, RE.rd kInt A9 cp10 a0.Item, RE.rd kInt A13 cp14 a0.Tri, RE.rd k_Level A51 cp52 v49.1.Levels, RE.rd k_Ar4_Int A75 cp76 v73.1.Color, RE.rd kInt A78 cp79 v73.1.Depth, RE.rd kInt A81 cp82 v73.1.Item, RE.rd kInt A84 cp85 v73.1.Tri]) => ?_))
           refine RL_cons (O_store (i := 6) (off := 0) (by exact wn0 rfl) (by rfl) (by rfl) H (by rfl) (vs := [.int .i64 v73.1.W, .int .i64 v73.1.H, .slice A75 v73.1.Color.length cp76, .slice A78 v73.1.Depth.length cp79, .slice A81 v73.1.Item.length cp82, .slice A84 v73.1.Tri.length cp85]) (by rfl) sz25 (by rfl) (by rfl) (by rfl) (fun w89 (H : Sep ok w w89 [.blk b17 25 [.int .i64 a0.W, .int .i64 a0.H, .slice A1 a0.Color.length cp2, .slice A5 a0.Depth.length cp6, .slice A9 a0.Item.length cp10, .slice A13 a0.Tri.length cp14], .blk b19 32 [.int .i64 a1.Rect.X0, .int .i64 a1.Rect.Y0, .int .i64 a1.Rect.X1, .int .i64 a1.Rect.Y1, .int .i64 a1.D], .blk b21 68 [.int .i64 a4.D, .int .i64 a4.Item, .int .i64 a4.Tri, .int .i64 a4.Part, .int .i64 a4.U, .int .i64 a4.V], .blk b23 61 [.int .u8 a5.a0, .int .u8 a5.a1, .int .u8 a5.a2, .int .u8 a5.a3], .blk b25 68 [.int .i64 a8.D, .int .i64 a8.Item, .int .i64 a8.Tri, .int .i64 a8.Part, .int .i64 a8.U, .int .i64 a8.V], .blk b54 28 [.slice A51 v49.1.Levels.length cp52], .blk b87 25 [.int .i64 v73.1.W, .int .i64 v73.1.H, .slice A75 v73.1.Color.length cp76, .slice A78 v73.1.Depth.length cp79, .slice A81 v73.1.Item.length cp82, .slice A84 v73.1.Tri.length cp85]] [RE.rd k_Ar4_Int A1 cp2 a0.Color, RE.rd kInt A5 cp6 a0.Depth, RE.rd kInt A9 cp10 a0.Item, RE.rd kInt A13 cp14 a0.Tri, RE.rd k_Level A51 cp52 v49.1.Levels, RE.rd k_Ar4_Int A75 cp76 v73.1.Color, RE.rd kInt A78 cp79 v73.1.Depth, RE.rd kInt A81 cp82 v73.1.Item, RE.rd kInt A84 cp85 v73.1.Tri]) => ?_))
           refine RL_pure (by exact wn0 rfl) (by rfl) (by rfl) (x_assign (v := .int .i64 v73.2) (by rfl)) ?_
           refine RL_nil ?_
           refine W_join (fun r' w' => ∃ (b87_0_1 : Int), ∃ (b87_1_1 : Int), ∃ (b87_2_1 : (List (Ar4 Int))), ∃ (b87_3_1 : (List Int)), ∃ (b87_4_1 : (List Int)), ∃ (b87_5_1 : (List Int)), ∃ (Ab87_2_1 : Option Addr), ∃ (cb87_2_1 : Nat), ∃ (Ab87_3_1 : Option Addr), ∃ (cb87_3_1 : Nat), ∃ (Ab87_4_1 : Option Addr), ∃ (cb87_4_1 : Nat), ∃ (Ab87_5_1 : Option Addr), ∃ (cb87_5_1 : Nat), m7_j1 K a2 a3 a4 a5 v28 v49 b87_0_1 b87_1_1 b87_2_1 b87_3_1 b87_4_1 b87_5_1 = some res ∧ Agr [(2, .int .i64 a2), (3, .int .i64 a3), (13, .pointer (some ⟨b21, 0, none⟩)), (14, .pointer (some ⟨b23, 0, none⟩)), (19, .bool v28), (20, .pointer (some ⟨b54, 0, none⟩)), (24, .pointer (some ⟨b87, 0, none⟩))] r' ∧ Sep ok w w' [.blk b17 25 [.int .i64 a0.W, .int .i64 a0.H, .slice A1 a0.Color.length cp2, .slice A5 a0.Depth.length cp6, .slice A9 a0.Item.length cp10, .slice A13 a0.Tri.length cp14], .blk b19 32 [.int .i64 a1.Rect.X0, .int .i64 a1.Rect.Y0, .int .i64 a1.Rect.X1, .int .i64 a1.Rect.Y1, .int .i64 a1.D], .blk b21 68 [.int .i64 a4.D, .int .i64 a4.Item, .int .i64 a4.Tri, .int .i64 a4.Part, .int .i64 a4.U, .int .i64 a4.V], .blk b23 61 [.int .u8 a5.a0, .int .u8 a5.a1, .int .u8 a5.a2, .int .u8 a5.a3], .blk b25 68 [.int .i64 a8.D, .int .i64 a8.Item, .int .i64 a8.Tri, .int .i64 a8.Part, .int .i64 a8.U, .int .i64 a8.V], .blk b54 28 [.slice A51 v49.1.Levels.length cp52], .blk b87 25 [.int .i64 b87_0_1, .int .i64 b87_1_1, .slice Ab87_2_1 b87_2_1.length cb87_2_1, .slice Ab87_3_1 b87_3_1.length cb87_3_1, .slice Ab87_4_1 b87_4_1.length cb87_4_1, .slice Ab87_5_1 b87_5_1.length cb87_5_1]] [RE.rd k_Ar4_Int A1 cp2 a0.Color, RE.rd kInt A5 cp6 a0.Depth, RE.rd kInt A9 cp10 a0.Item, RE.rd kInt A13 cp14 a0.Tri, RE.rd k_Level A51 cp52 v49.1.Levels, RE.rd k_Ar4_Int A75 cp76 v73.1.Color, RE.rd kInt A78 cp79 v73.1.Depth, RE.rd kInt A81 cp82 v73.1.Item, RE.rd kInt A84 cp85 v73.1.Tri, RE.rd k_Ar4_Int Ab87_2_1 cb87_2_1 b87_2_1, RE.rd kInt Ab87_3_1 cb87_3_1 b87_3_1, RE.rd kInt Ab87_4_1 cb87_4_1 b87_4_1, RE.rd kInt Ab87_5_1 cb87_5_1 b87_5_1]) ?_ ?_
           ·show W _ _ _ _ _ _
            refine W_seq ?_
            refine W_region ?_
            refine RL_pure (by exact wn0 rfl) (by rfl) (by rfl) (x_move (v := .int .i64 v73.2) (by rfl)) ?_
            refine RL_pure (by exact wn0 rfl) (by rfl) (by rfl) (x_neq (by rfl) (by rfl)) ?_
            refine RL_nil ?_
            refine W_cond (by rfl) (fun hb => ?_) (fun hb => ?_)
            ·have hm := cond_t hb hm
             refine W_region ?_
             refine RL_pure (by exact wn0 rfl) (by rfl) (by rfl) (x_loadA (j := 0) (vs := [.int .i64 a0.W, .int .i64 a0.H, .slice A1 a0.Color.length cp2, .slice A5 a0.Depth.length cp6, .slice A9 a0.Item.length cp10, .slice A13 a0.Tri.length cp14]) ag25 (by rfl) (H.cells (i := 0) (by rfl)) (by rfl) (by rfl)) ?_
             refine RL_cons (O_store (i := 6) (off := 0) (by exact wn0 rfl) (by rfl) (by rfl) H (by rfl) (vs := [.int .i64 a0.W, .int .i64 a0.H, .slice A1 a0.Color.length cp2, .slice A5 a0.Depth.length cp6, .slice A9 a0.Item.length cp10, .slice A13 a0.Tri.length cp14]) (by rfl) sz25 (by rfl) (by rfl) (by rfl) (fun w90 (H : Sep ok w w90 [.blk b17 25 [.int .i64 a0.W, .int .i64 a0.H, .slice A1 a0.Color.length cp2, .slice A5 a0.Depth.length cp6, .slice A9 a0.Item.length cp10, .slice A13 a0.Tri.length cp14], .blk b19 32 [.int .i64 a1.Rect.X0, .int .i64 a1.Rect.Y0, .int .i64 a1.Rect.X1, .int .i64 a1.Rect.Y1, .int .i64 a1.D], .blk b21 68 [.int .i64 a4.D, .int .i64 a4.Item, .int .i64 a4.Tri, .int .i64 a4.Part, .int .i64 a4.U, .int .i64 a4.V], .blk b23 61 [.int .u8 a5.a0, .int .u8 a5.a1, .int .u8 a5.a2, .int .u8 a5.a3], .blk b25 68 [.int .i64 a8.D, .int .i64 a8.Item, .int .i64 a8.Tri, .int .i64 a8.Part, .int .i64 a8.U, .int .i64 a8.V], .blk b54 28 [.slice A51 v49.1.Levels.length cp52], .blk b87 25 [.int .i64 a0.W, .int .i64 a0.H, .slice A1 a0.Color.length cp2, .slice A5 a0.Depth.length cp6, .slice A9 a0.Item.length cp10, .slice A13 a0.Tri.length cp14]] [RE.rd k_Ar4_Int A1 cp2 a0.Color, RE.rd kInt A5 cp6 a0.Depth, RE.rd kInt A9 cp10 a0.Item, RE.rd kInt A13 cp14 a0.Tri, RE.rd k_Level A51 cp52 v49.1.Levels, RE.rd k_Ar4_Int A75 cp76 v73.1.Color, RE.rd kInt A78 cp79 v73.1.Depth, RE.rd kInt A81 cp82 v73.1.Item, RE.rd kInt A84 cp85 v73.1.Tri]) => ?_))
             refine RL_nil ?_
             exact ⟨a0.W, a0.H, a0.Color, a0.Depth, a0.Item, a0.Tri, A1, cp2, A5, cp6, A9, cp10, A13, cp14, hm, ⟨rfl, rfl, rfl, rfl, rfl, rfl, rfl, trivial⟩, (H).pick [0, 1, 2, 3, 4, 5, 6, 7, 8, 0, 1, 2, 3]⟩
            ·have hm := cond_f hb hm
             refine W_skip ?_
             exact ⟨v73.1.W, v73.1.H, v73.1.Color, v73.1.Depth, v73.1.Item, v73.1.Tri, A75, cp76, A78, cp79, A81, cp82, A84, cp85, hm, ⟨rfl, rfl, rfl, rfl, rfl, rfl, rfl, trivial⟩, (H).pick [0, 1, 2, 3, 4, 5, 6, 7, 8, 5, 6, 7, 8]⟩
           ·rintro r' w' ⟨b87_0_1, b87_1_1, b87_2_1, b87_3_1, b87_4_1, b87_5_1, Ab87_2_1, cb87_2_1, Ab87_3_1, cb87_3_1, Ab87_4_1, cb87_4_1, Ab87_5_1, cb87_5_1, hm, hA, H⟩
            obtain ⟨r91, rfl⟩ := regen _ hA; clear hA
            obtain ⟨w92, rfl⟩ : ∃ W : World, W = w' := ⟨_, rfl⟩
            unfold m7_j1 at hm
            refine W_seq ?_
            refine W_region ?_
            refine RL_pure (by exact wn0 rfl) (by rfl) (by rfl) (x_loadA (j := 0) (vs := [.int .i64 b87_0_1, .int .i64 b87_1_1, .slice Ab87_2_1 b87_2_1.length cb87_2_1, .slice Ab87_3_1 b87_3_1.length cb87_3_1, .slice Ab87_4_1 b87_4_1.length cb87_4_1, .slice Ab87_5_1 b87_5_1.length cb87_5_1]) ag25 (by rfl) (H.cells (i := 6) (by rfl)) (by rfl) (by rfl)) ?_
            refine RL_pure (by exact wn0 rfl) (by rfl) (by rfl) (x_move (v := .int .i64 a2) (by rfl)) ?_
            refine RL_pure (by exact wn0 rfl) (by rfl) (by rfl) (x_move (v := .int .i64 a3) (by rfl)) ?_
            refine RL_pure (by exact wn0 rfl) (by rfl) (by rfl) (x_loadA (j := 0) (vs := [.int .i64 a4.D, .int .i64 a4.Item, .int .i64 a4.Tri, .int .i64 a4.Part, .int .i64 a4.U, .int .i64 a4.V]) ag68 (by rfl) (H.cells (i := 2) (by rfl)) (by rfl) (by rfl)) ?_
            refine RL_pure (by exact wn0 rfl) (by rfl) (by rfl) (x_loadA (j := 0) (vs := [.int .u8 a5.a0, .int .u8 a5.a1, .int .u8 a5.a2, .int .u8 a5.a3]) ag61 (by rfl) (H.cells (i := 3) (by rfl)) (by rfl) (by rfl)) ?_
            obtain ⟨v94, hv93, hm⟩ := bind_some hm
            refine RL_cons (O_call (by exact wn0 rfl) (by rfl) (by rfl) (x_callL (by rfl) (args := [.agg #[.int .i64 b87_0_1, .int .i64 b87_1_1, .slice Ab87_2_1 b87_2_1.length cb87_2_1, .slice Ab87_3_1 b87_3_1.length cb87_3_1, .slice Ab87_4_1 b87_4_1.length cb87_4_1, .slice Ab87_5_1 b87_5_1.length cb87_5_1], .int .i64 a2, .int .i64 a3, .agg #[.int .i64 a4.D, .int .i64 a4.Item, .int .i64 a4.Tri, .int .i64 a4.Part, .int .i64 a4.U, .int .i64 a4.V], .agg #[.int .u8 a5.a0, .int .u8 a5.a1, .int .u8 a5.a2, .int .u8 a5.a3]]) (by rfl) (cf30 _ _)) (c30 (okS ok w [.blk b17 25 [.int .i64 a0.W, .int .i64 a0.H, .slice A1 a0.Color.length cp2, .slice A5 a0.Depth.length cp6, .slice A9 a0.Item.length cp10, .slice A13 a0.Tri.length cp14], .blk b19 32 [.int .i64 a1.Rect.X0, .int .i64 a1.Rect.Y0, .int .i64 a1.Rect.X1, .int .i64 a1.Rect.Y1, .int .i64 a1.D], .blk b21 68 [.int .i64 a4.D, .int .i64 a4.Item, .int .i64 a4.Tri, .int .i64 a4.Part, .int .i64 a4.U, .int .i64 a4.V], .blk b23 61 [.int .u8 a5.a0, .int .u8 a5.a1, .int .u8 a5.a2, .int .u8 a5.a3], .blk b25 68 [.int .i64 a8.D, .int .i64 a8.Item, .int .i64 a8.Tri, .int .i64 a8.Part, .int .i64 a8.U, .int .i64 a8.V], .blk b54 28 [.slice A51 v49.1.Levels.length cp52], .blk b87 25 [.int .i64 b87_0_1, .int .i64 b87_1_1, .slice Ab87_2_1 b87_2_1.length cb87_2_1, .slice Ab87_3_1 b87_3_1.length cb87_3_1, .slice Ab87_4_1 b87_4_1.length cb87_4_1, .slice Ab87_5_1 b87_5_1.length cb87_5_1]]) K w92 (⟨b87_0_1, b87_1_1, b87_2_1, b87_3_1, b87_4_1, b87_5_1⟩ : S_Frame) Ab87_2_1 cb87_2_1 Ab87_3_1 cb87_3_1 Ab87_4_1 cb87_4_1 Ab87_5_1 cb87_5_1 a2 a3 a4 a5 (H.rd (i := 9) (by rfl)) (H.rd (i := 10) (by rfl)) (H.rd (i := 11) (by rfl)) (H.rd (i := 12) (by rfl)) v94 hv93) ?_)
            rintro e w95 ⟨A96, cp97, A99, cp100, A102, cp103, A105, cp106, rfl, H2⟩
            have H : Sep ok w w95 [.blk b17 25 [.int .i64 a0.W, .int .i64 a0.H, .slice A1 a0.Color.length cp2, .slice A5 a0.Depth.length cp6, .slice A9 a0.Item.length cp10, .slice A13 a0.Tri.length cp14], .blk b19 32 [.int .i64 a1.Rect.X0, .int .i64 a1.Rect.Y0, .int .i64 a1.Rect.X1, .int .i64 a1.Rect.Y1, .int .i64 a1.D], .blk b21 68 [.int .i64 a4.D, .int .i64 a4.Item, .int .i64 a4.Tri, .int .i64 a4.Part, .int .i64 a4.U, .int .i64 a4.V], .blk b23 61 [.int .u8 a5.a0, .int .u8 a5.a1, .int .u8 a5.a2, .int .u8 a5.a3], .blk b25 68 [.int .i64 a8.D, .int .i64 a8.Item, .int .i64 a8.Tri, .int .i64 a8.Part, .int .i64 a8.U, .int .i64 a8.V], .blk b54 28 [.slice A51 v49.1.Levels.length cp52], .blk b87 25 [.int .i64 b87_0_1, .int .i64 b87_1_1, .slice Ab87_2_1 b87_2_1.length cb87_2_1, .slice Ab87_3_1 b87_3_1.length cb87_3_1, .slice Ab87_4_1 b87_4_1.length cb87_4_1, .slice Ab87_5_1 b87_5_1.length cb87_5_1]] [RE.rd k_Ar4_Int A1 cp2 a0.Color, RE.rd kInt A5 cp6 a0.Depth, RE.rd kInt A9 cp10 a0.Item, RE.rd kInt A13 cp14 a0.Tri, RE.rd k_Level A51 cp52 v49.1.Levels, RE.rd k_Ar4_Int A75 cp76 v73.1.Color, RE.rd kInt A78 cp79 v73.1.Depth, RE.rd kInt A81 cp82 v73.1.Item, RE.rd kInt A84 cp85 v73.1.Tri, RE.rd k_Ar4_Int Ab87_2_1 cb87_2_1 b87_2_1, RE.rd kInt Ab87_3_1 cb87_3_1 b87_3_1, RE.rd kInt Ab87_4_1 cb87_4_1 b87_4_1, RE.rd kInt Ab87_5_1 cb87_5_1 b87_5_1, RE.rd k_Ar4_Int A96 cp97 v94.1.Color, RE.rd kInt A99 cp100 v94.1.Depth, RE.rd kInt A102 cp103 v94.1.Item, RE.rd kInt A105 cp106 v94.1.Tri] := H.call H2
            clear H2
            refine ⟨_, rfl, ?_⟩
            show RL _ _ _ _ _ _ _
            refine RL_pure (by exact wn0 rfl) (by rfl) (by rfl) (x_move (v := tup [.agg #[.int .i64 v94.1.W, .int .i64 v94.1.H, .slice A96 v94.1.Color.length cp97, .slice A99 v94.1.Depth.length cp100, .slice A102 v94.1.Item.length cp103, .slice A105 v94.1.Tri.length cp106], .int .i64 v94.2]) (by rfl)) ?_
            refine RL_pure (by exact wn0 rfl) (by rfl) (by rfl) (x_extract (v := .agg #[.int .i64 v94.1.W, .int .i64 v94.1.H, .slice A96 v94.1.Color.length cp97, .slice A99 v94.1.Depth.length cp100, .slice A102 v94.1.Item.length cp103, .slice A105 v94.1.Tri.length cp106]) (by rfl) (by rfl)) ?_
            refine RL_pure (by exact wn0 rfl) (by rfl) (by rfl) (x_extract (v := .int .i64 v94.2) (by rfl) (by rfl)) ?_
            refine RL_cons (O_alloc (by exact wn0 rfl) (by rfl) ze25 (by rfl) H (fun w109 b108 (H : Sep ok w w109 [.blk b17 25 [.int .i64 a0.W, .int .i64 a0.H, .slice A1 a0.Color.length cp2, .slice A5 a0.Depth.length cp6, .slice A9 a0.Item.length cp10, .slice A13 a0.Tri.length cp14], .blk b19 32 [.int .i64 a1.Rect.X0, .int .i64 a1.Rect.Y0, .int .i64 a1.Rect.X1, .int .i64 a1.Rect.Y1, .int .i64 a1.D], .blk b21 68 [.int .i64 a4.D, .int .i64 a4.Item, .int .i64 a4.Tri, .int .i64 a4.Part, .int .i64 a4.U, .int .i64 a4.V], .blk b23 61 [.int .u8 a5.a0, .int .u8 a5.a1, .int .u8 a5.a2, .int .u8 a5.a3], .blk b25 68 [.int .i64 a8.D, .int .i64 a8.Item, .int .i64 a8.Tri, .int .i64 a8.Part, .int .i64 a8.U, .int .i64 a8.V], .blk b54 28 [.slice A51 v49.1.Levels.length cp52], .blk b87 25 [.int .i64 b87_0_1, .int .i64 b87_1_1, .slice Ab87_2_1 b87_2_1.length cb87_2_1, .slice Ab87_3_1 b87_3_1.length cb87_3_1, .slice Ab87_4_1 b87_4_1.length cb87_4_1, .slice Ab87_5_1 b87_5_1.length cb87_5_1], .blk b108 25 [.int .i64 0, .int .i64 0, .slice none 0 0, .slice none 0 0, .slice none 0 0, .slice none 0 0]] [RE.rd k_Ar4_Int A1 cp2 a0.Color, RE.rd kInt A5 cp6 a0.Depth, RE.rd kInt A9 cp10 a0.Item, RE.rd kInt A13 cp14 a0.Tri, RE.rd k_Level A51 cp52 v49.1.Levels, RE.rd k_Ar4_Int A75 cp76 v73.1.Color, RE.rd kInt A78 cp79 v73.1.Depth, RE.rd kInt A81 cp82 v73.1.Item, RE.rd kInt A84 cp85 v73.1.Tri, RE.rd k_Ar4_Int Ab87_2_1 cb87_2_1 b87_2_1, RE.rd kInt Ab87_3_1 cb87_3_1 b87_3_1, RE.rd kInt Ab87_4_1 cb87_4_1 b87_4_1, RE.rd kInt Ab87_5_1 cb87_5_1 b87_5_1, RE.rd k_Ar4_Int A96 cp97 v94.1.Color, RE.rd kInt A99 cp100 v94.1.Depth, RE.rd kInt A102 cp103 v94.1.Item, RE.rd kInt A105 cp106 v94.1.Tri]) => ?_))
            refine RL_cons (O_store (i := 7) (off := 0) (by exact wn0 rfl) (by rfl) (by rfl) H (by rfl) (vs := [.int .i64 v94.1.W, .int .i64 v94.1.H, .slice A96 v94.1.Color.length cp97, .slice A99 v94.1.Depth.length cp100, .slice A102 v94.1.Item.length cp103, .slice A105 v94.1.Tri.length cp106]) (by rfl) sz25 (by rfl) (by rfl) (by rfl) (fun w110 (H : Sep ok w w110 [.blk b17 25 [.int .i64 a0.W, .int .i64 a0.H, .slice A1 a0.Color.length cp2, .slice A5 a0.Depth.length cp6, .slice A9 a0.Item.length cp10, .slice A13 a0.Tri.length cp14], .blk b19 32 [.int .i64 a1.Rect.X0, .int .i64 a1.Rect.Y0, .int .i64 a1.Rect.X1, .int .i64 a1.Rect.Y1, .int .i64 a1.D], .blk b21 68 [.int .i64 a4.D, .int .i64 a4.Item, .int .i64 a4.Tri, .int .i64 a4.Part, .int .i64 a4.U, .int .i64 a4.V], .blk b23 61 [.int .u8 a5.a0, .int .u8 a5.a1, .int .u8 a5.a2, .int .u8 a5.a3], .blk b25 68 [.int .i64 a8.D, .int .i64 a8.Item, .int .i64 a8.Tri, .int .i64 a8.Part, .int .i64 a8.U, .int .i64 a8.V], .blk b54 28 [.slice A51 v49.1.Levels.length cp52], .blk b87 25 [.int .i64 b87_0_1, .int .i64 b87_1_1, .slice Ab87_2_1 b87_2_1.length cb87_2_1, .slice Ab87_3_1 b87_3_1.length cb87_3_1, .slice Ab87_4_1 b87_4_1.length cb87_4_1, .slice Ab87_5_1 b87_5_1.length cb87_5_1], .blk b108 25 [.int .i64 v94.1.W, .int .i64 v94.1.H, .slice A96 v94.1.Color.length cp97, .slice A99 v94.1.Depth.length cp100, .slice A102 v94.1.Item.length cp103, .slice A105 v94.1.Tri.length cp106]] [RE.rd k_Ar4_Int A1 cp2 a0.Color, RE.rd kInt A5 cp6 a0.Depth, RE.rd kInt A9 cp10 a0.Item, RE.rd kInt A13 cp14 a0.Tri, RE.rd k_Level A51 cp52 v49.1.Levels, RE.rd k_Ar4_Int A75 cp76 v73.1.Color, RE.rd kInt A78 cp79 v73.1.Depth, RE.rd kInt A81 cp82 v73.1.Item, RE.rd kInt A84 cp85 v73.1.Tri, RE.rd k_Ar4_Int Ab87_2_1 cb87_2_1 b87_2_1, RE.rd kInt Ab87_3_1 cb87_3_1 b87_3_1, RE.rd kInt Ab87_4_1 cb87_4_1 b87_4_1, RE.rd kInt Ab87_5_1 cb87_5_1 b87_5_1, RE.rd k_Ar4_Int A96 cp97 v94.1.Color, RE.rd kInt A99 cp100 v94.1.Depth, RE.rd kInt A102 cp103 v94.1.Item, RE.rd kInt A105 cp106 v94.1.Tri]) => ?_))
            refine RL_pure (by exact wn0 rfl) (by rfl) (by rfl) (x_assign (v := .int .i64 v94.2) (by rfl)) ?_
            refine RL_nil ?_
            refine W_seq ?_
            refine W_region ?_
            refine RL_pure (by exact wn0 rfl) (by rfl) (by rfl) (x_loadA (j := 0) (vs := [.int .i64 b87_0_1, .int .i64 b87_1_1, .slice Ab87_2_1 b87_2_1.length cb87_2_1, .slice Ab87_3_1 b87_3_1.length cb87_3_1, .slice Ab87_4_1 b87_4_1.length cb87_4_1, .slice Ab87_5_1 b87_5_1.length cb87_5_1]) ag25 (by rfl) (H.cells (i := 6) (by rfl)) (by rfl) (by rfl)) ?_
            refine RL_pure (by exact wn0 rfl) (by rfl) (by rfl) (x_move (v := .int .i64 a2) (by rfl)) ?_
            refine RL_pure (by exact wn0 rfl) (by rfl) (by rfl) (x_move (v := .int .i64 a3) (by rfl)) ?_
            refine RL_pure (by exact wn0 rfl) (by rfl) (by rfl) (x_fieldAddr fo68_0 (by rfl)) ?_
            refine RL_pure (by exact wn0 rfl) (by rfl) (by rfl) (x_load (j := 0) (v := .int .i64 a4.D) sc3 (by rfl) (H.cells (i := 2) (by rfl)) (by rfl)) ?_
            refine RL_pure (by exact wn0 rfl) (by rfl) (by rfl) (x_loadA (j := 0) (vs := [.int .u8 a5.a0, .int .u8 a5.a1, .int .u8 a5.a2, .int .u8 a5.a3]) ag61 (by rfl) (H.cells (i := 3) (by rfl)) (by rfl) (by rfl)) ?_
            obtain ⟨v112, hv111, hm⟩ := bind_some hm
            refine RL_cons (O_call (by exact wn0 rfl) (by rfl) (by rfl) (x_callL (by rfl) (args := [.agg #[.int .i64 b87_0_1, .int .i64 b87_1_1, .slice Ab87_2_1 b87_2_1.length cb87_2_1, .slice Ab87_3_1 b87_3_1.length cb87_3_1, .slice Ab87_4_1 b87_4_1.length cb87_4_1, .slice Ab87_5_1 b87_5_1.length cb87_5_1], .int .i64 a2, .int .i64 a3, .int .i64 a4.D, .agg #[.int .u8 a5.a0, .int .u8 a5.a1, .int .u8 a5.a2, .int .u8 a5.a3]]) (by rfl) (cf27 _ _)) (c27 (okS ok w [.blk b17 25 [.int .i64 a0.W, .int .i64 a0.H, .slice A1 a0.Color.length cp2, .slice A5 a0.Depth.length cp6, .slice A9 a0.Item.length cp10, .slice A13 a0.Tri.length cp14], .blk b19 32 [.int .i64 a1.Rect.X0, .int .i64 a1.Rect.Y0, .int .i64 a1.Rect.X1, .int .i64 a1.Rect.Y1, .int .i64 a1.D], .blk b21 68 [.int .i64 a4.D, .int .i64 a4.Item, .int .i64 a4.Tri, .int .i64 a4.Part, .int .i64 a4.U, .int .i64 a4.V], .blk b23 61 [.int .u8 a5.a0, .int .u8 a5.a1, .int .u8 a5.a2, .int .u8 a5.a3], .blk b25 68 [.int .i64 a8.D, .int .i64 a8.Item, .int .i64 a8.Tri, .int .i64 a8.Part, .int .i64 a8.U, .int .i64 a8.V], .blk b54 28 [.slice A51 v49.1.Levels.length cp52], .blk b87 25 [.int .i64 b87_0_1, .int .i64 b87_1_1, .slice Ab87_2_1 b87_2_1.length cb87_2_1, .slice Ab87_3_1 b87_3_1.length cb87_3_1, .slice Ab87_4_1 b87_4_1.length cb87_4_1, .slice Ab87_5_1 b87_5_1.length cb87_5_1], .blk b108 25 [.int .i64 v94.1.W, .int .i64 v94.1.H, .slice A96 v94.1.Color.length cp97, .slice A99 v94.1.Depth.length cp100, .slice A102 v94.1.Item.length cp103, .slice A105 v94.1.Tri.length cp106]]) K w110 (⟨b87_0_1, b87_1_1, b87_2_1, b87_3_1, b87_4_1, b87_5_1⟩ : S_Frame) Ab87_2_1 cb87_2_1 Ab87_3_1 cb87_3_1 Ab87_4_1 cb87_4_1 Ab87_5_1 cb87_5_1 a2 a3 a4.D a5 (H.rd (i := 9) (by rfl)) (H.rd (i := 10) (by rfl)) (H.rd (i := 11) (by rfl)) (H.rd (i := 12) (by rfl)) v112 hv111) ?_)
            rintro e w113 ⟨A114, cp115, A117, cp118, A120, cp121, A123, cp124, rfl, H2⟩
            have H : Sep ok w w113 [.blk b17 25 [.int .i64 a0.W, .int .i64 a0.H, .slice A1 a0.Color.length cp2, .slice A5 a0.Depth.length cp6, .slice A9 a0.Item.length cp10, .slice A13 a0.Tri.length cp14], .blk b19 32 [.int .i64 a1.Rect.X0, .int .i64 a1.Rect.Y0, .int .i64 a1.Rect.X1, .int .i64 a1.Rect.Y1, .int .i64 a1.D], .blk b21 68 [.int .i64 a4.D, .int .i64 a4.Item, .int .i64 a4.Tri, .int .i64 a4.Part, .int .i64 a4.U, .int .i64 a4.V], .blk b23 61 [.int .u8 a5.a0, .int .u8 a5.a1, .int .u8 a5.a2, .int .u8 a5.a3], .blk b25 68 [.int .i64 a8.D, .int .i64 a8.Item, .int .i64 a8.Tri, .int .i64 a8.Part, .int .i64 a8.U, .int .i64 a8.V], .blk b54 28 [.slice A51 v49.1.Levels.length cp52], .blk b87 25 [.int .i64 b87_0_1, .int .i64 b87_1_1, .slice Ab87_2_1 b87_2_1.length cb87_2_1, .slice Ab87_3_1 b87_3_1.length cb87_3_1, .slice Ab87_4_1 b87_4_1.length cb87_4_1, .slice Ab87_5_1 b87_5_1.length cb87_5_1], .blk b108 25 [.int .i64 v94.1.W, .int .i64 v94.1.H, .slice A96 v94.1.Color.length cp97, .slice A99 v94.1.Depth.length cp100, .slice A102 v94.1.Item.length cp103, .slice A105 v94.1.Tri.length cp106]] [RE.rd k_Ar4_Int A1 cp2 a0.Color, RE.rd kInt A5 cp6 a0.Depth, RE.rd kInt A9 cp10 a0.Item, RE.rd kInt A13 cp14 a0.Tri, RE.rd k_Level A51 cp52 v49.1.Levels, RE.rd k_Ar4_Int A75 cp76 v73.1.Color, RE.rd kInt A78 cp79 v73.1.Depth, RE.rd kInt A81 cp82 v73.1.Item, RE.rd kInt A84 cp85 v73.1.Tri, RE.rd k_Ar4_Int Ab87_2_1 cb87_2_1 b87_2_1, RE.rd kInt Ab87_3_1 cb87_3_1 b87_3_1, RE.rd kInt Ab87_4_1 cb87_4_1 b87_4_1, RE.rd kInt Ab87_5_1 cb87_5_1 b87_5_1, RE.rd k_Ar4_Int A96 cp97 v94.1.Color, RE.rd kInt A99 cp100 v94.1.Depth, RE.rd kInt A102 cp103 v94.1.Item, RE.rd kInt A105 cp106 v94.1.Tri, RE.rd k_Ar4_Int A114 cp115 v112.1.Color, RE.rd kInt A117 cp118 v112.1.Depth, RE.rd kInt A120 cp121 v112.1.Item, RE.rd kInt A123 cp124 v112.1.Tri] := H.call H2
            clear H2
            refine ⟨_, rfl, ?_⟩
            show RL _ _ _ _ _ _ _
            refine RL_pure (by exact wn0 rfl) (by rfl) (by rfl) (x_move (v := tup [.agg #[.int .i64 v112.1.W, .int .i64 v112.1.H, .slice A114 v112.1.Color.length cp115, .slice A117 v112.1.Depth.length cp118, .slice A120 v112.1.Item.length cp121, .slice A123 v112.1.Tri.length cp124], .int .i64 v112.2]) (by rfl)) ?_
            refine RL_pure (by exact wn0 rfl) (by rfl) (by rfl) (x_extract (v := .agg #[.int .i64 v112.1.W, .int .i64 v112.1.H, .slice A114 v112.1.Color.length cp115, .slice A117 v112.1.Depth.length cp118, .slice A120 v112.1.Item.length cp121, .slice A123 v112.1.Tri.length cp124]) (by rfl) (by rfl)) ?_
            refine RL_pure (by exact wn0 rfl) (by rfl) (by rfl) (x_extract (v := .int .i64 v112.2) (by rfl) (by rfl)) ?_
            refine RL_cons (O_alloc (by exact wn0 rfl) (by rfl) ze25 (by rfl) H (fun w127 b126 (H : Sep ok w w127 [.blk b17 25 [.int .i64 a0.W, .int .i64 a0.H, .slice A1 a0.Color.length cp2, .slice A5 a0.Depth.length cp6, .slice A9 a0.Item.length cp10, .slice A13 a0.Tri.length cp14], .blk b19 32 [.int .i64 a1.Rect.X0, .int .i64 a1.Rect.Y0, .int .i64 a1.Rect.X1, .int .i64 a1.Rect.Y1, .int .i64 a1.D], .blk b21 68 [.int .i64 a4.D, .int .i64 a4.Item, .int .i64 a4.Tri, .int .i64 a4.Part, .int .i64 a4.U, .int .i64 a4.V], .blk b23 61 [.int .u8 a5.a0, .int .u8 a5.a1, .int .u8 a5.a2, .int .u8 a5.a3], .blk b25 68 [.int .i64 a8.D, .int .i64 a8.Item, .int .i64 a8.Tri, .int .i64 a8.Part, .int .i64 a8.U, .int .i64 a8.V], .blk b54 28 [.slice A51 v49.1.Levels.length cp52], .blk b87 25 [.int .i64 b87_0_1, .int .i64 b87_1_1, .slice Ab87_2_1 b87_2_1.length cb87_2_1, .slice Ab87_3_1 b87_3_1.length cb87_3_1, .slice Ab87_4_1 b87_4_1.length cb87_4_1, .slice Ab87_5_1 b87_5_1.length cb87_5_1], .blk b108 25 [.int .i64 v94.1.W, .int .i64 v94.1.H, .slice A96 v94.1.Color.length cp97, .slice A99 v94.1.Depth.length cp100, .slice A102 v94.1.Item.length cp103, .slice A105 v94.1.Tri.length cp106], .blk b126 25 [.int .i64 0, .int .i64 0, .slice none 0 0, .slice none 0 0, .slice none 0 0, .slice none 0 0]] [RE.rd k_Ar4_Int A1 cp2 a0.Color, RE.rd kInt A5 cp6 a0.Depth, RE.rd kInt A9 cp10 a0.Item, RE.rd kInt A13 cp14 a0.Tri, RE.rd k_Level A51 cp52 v49.1.Levels, RE.rd k_Ar4_Int A75 cp76 v73.1.Color, RE.rd kInt A78 cp79 v73.1.Depth, RE.rd kInt A81 cp82 v73.1.Item, RE.rd kInt A84 cp85 v73.1.Tri, RE.rd k_Ar4_Int Ab87_2_1 cb87_2_1 b87_2_1, RE.rd kInt Ab87_3_1 cb87_3_1 b87_3_1, RE.rd kInt Ab87_4_1 cb87_4_1 b87_4_1, RE.rd kInt Ab87_5_1 cb87_5_1 b87_5_1, RE.rd k_Ar4_Int A96 cp97 v94.1.Color, RE.rd kInt A99 cp100 v94.1.Depth, RE.rd kInt A102 cp103 v94.1.Item, RE.rd kInt A105 cp106 v94.1.Tri, RE.rd k_Ar4_Int A114 cp115 v112.1.Color, RE.rd kInt A117 cp118 v112.1.Depth, RE.rd kInt A120 cp121 v112.1.Item, RE.rd kInt A123 cp124 v112.1.Tri]) => ?_))
            refine RL_cons (O_store (i := 8) (off := 0) (by exact wn0 rfl) (by rfl) (by rfl) H (by rfl) (vs := [.int .i64 v112.1.W, .int .i64 v112.1.H, .slice A114 v112.1.Color.length cp115, .slice A117 v112.1.Depth.length cp118, .slice A120 v112.1.Item.length cp121, .slice A123 v112.1.Tri.length cp124]) (by rfl) sz25 (by rfl) (by rfl) (by rfl) (fun w128 (H : Sep ok w w128 [.blk b17 25 [.int .i64 a0.W, .int .i64 a0.H, .slice A1 a0.Color.length cp2, .slice A5 a0.Depth.length cp6, .slice A9 a0.Item.length cp10, .slice A13 a0.Tri.length cp14], .blk b19 32 [.int .i64 a1.Rect.X0, .int .i64 a1.Rect.Y0, .int .i64 a1.Rect.X1, .int .i64 a1.Rect.Y1, .int .i64 a1.D], .blk b21 68 [.int .i64 a4.D, .int .i64 a4.Item, .int .i64 a4.Tri, .int .i64 a4.Part, .int .i64 a4.U, .int .i64 a4.V], .blk b23 61 [.int .u8 a5.a0, .int .u8 a5.a1, .int .u8 a5.a2, .int .u8 a5.a3], .blk b25 68 [.int .i64 a8.D, .int .i64 a8.Item, .int .i64 a8.Tri, .int .i64 a8.Part, .int .i64 a8.U, .int .i64 a8.V], .blk b54 28 [.slice A51 v49.1.Levels.length cp52], .blk b87 25 [.int .i64 b87_0_1, .int .i64 b87_1_1, .slice Ab87_2_1 b87_2_1.length cb87_2_1, .slice Ab87_3_1 b87_3_1.length cb87_3_1, .slice Ab87_4_1 b87_4_1.length cb87_4_1, .slice Ab87_5_1 b87_5_1.length cb87_5_1], .blk b108 25 [.int .i64 v94.1.W, .int .i64 v94.1.H, .slice A96 v94.1.Color.length cp97, .slice A99 v94.1.Depth.length cp100, .slice A102 v94.1.Item.length cp103, .slice A105 v94.1.Tri.length cp106], .blk b126 25 [.int .i64 v112.1.W, .int .i64 v112.1.H, .slice A114 v112.1.Color.length cp115, .slice A117 v112.1.Depth.length cp118, .slice A120 v112.1.Item.length cp121, .slice A123 v112.1.Tri.length cp124]] [RE.rd k_Ar4_Int A1 cp2 a0.Color, RE.rd kInt A5 cp6 a0.Depth, RE.rd kInt A9 cp10 a0.Item, RE.rd kInt A13 cp14 a0.Tri, RE.rd k_Level A51 cp52 v49.1.Levels, RE.rd k_Ar4_Int A75 cp76 v73.1.Color, RE.rd kInt A78 cp79 v73.1.Depth, RE.rd kInt A81 cp82 v73.1.Item, RE.rd kInt A84 cp85 v73.1.Tri, RE.rd k_Ar4_Int Ab87_2_1 cb87_2_1 b87_2_1, RE.rd kInt Ab87_3_1 cb87_3_1 b87_3_1, RE.rd kInt Ab87_4_1 cb87_4_1 b87_4_1, RE.rd kInt Ab87_5_1 cb87_5_1 b87_5_1, RE.rd k_Ar4_Int A96 cp97 v94.1.Color, RE.rd kInt A99 cp100 v94.1.Depth, RE.rd kInt A102 cp103 v94.1.Item, RE.rd kInt A105 cp106 v94.1.Tri, RE.rd k_Ar4_Int A114 cp115 v112.1.Color, RE.rd kInt A117 cp118 v112.1.Depth, RE.rd kInt A120 cp121 v112.1.Item, RE.rd kInt A123 cp124 v112.1.Tri]) => ?_))
            refine RL_pure (by exact wn0 rfl) (by rfl) (by rfl) (x_assign (v := .int .i64 v112.2) (by rfl)) ?_
            refine RL_nil ?_
            refine W_seq ?_
            refine W_region ?_
            refine RL_pure (by exact wn0 rfl) (by rfl) (by rfl) (x_move (v := .bool v28) (by rfl)) ?_
            refine RL_pure (by exact wn0 rfl) (by rfl) (by rfl) (x_move (v := .bool v28) (by rfl)) ?_
            obtain ⟨b129, hmS, hm⟩ := bind_some hm
            refine RL_cut 8 (fun r' w' => Agr [(141, .bool b129), (20, .pointer (some ⟨b54, 0, none⟩)), (24, .pointer (some ⟨b87, 0, none⟩)), (28, .pointer (some ⟨b126, 0, none⟩)), (29, .int .i64 v112.2)] r' ∧ Sep ok w w' [.blk b17 25 [.int .i64 a0.W, .int .i64 a0.H, .slice A1 a0.Color.length cp2, .slice A5 a0.Depth.length cp6, .slice A9 a0.Item.length cp10, .slice A13 a0.Tri.length cp14], .blk b19 32 [.int .i64 a1.Rect.X0, .int .i64 a1.Rect.Y0, .int .i64 a1.Rect.X1, .int .i64 a1.Rect.Y1, .int .i64 a1.D], .blk b21 68 [.int .i64 a4.D, .int .i64 a4.Item, .int .i64 a4.Tri, .int .i64 a4.Part, .int .i64 a4.U, .int .i64 a4.V], .blk b23 61 [.int .u8 a5.a0, .int .u8 a5.a1, .int .u8 a5.a2, .int .u8 a5.a3], .blk b25 68 [.int .i64 a8.D, .int .i64 a8.Item, .int .i64 a8.Tri, .int .i64 a8.Part, .int .i64 a8.U, .int .i64 a8.V], .blk b54 28 [.slice A51 v49.1.Levels.length cp52], .blk b87 25 [.int .i64 b87_0_1, .int .i64 b87_1_1, .slice Ab87_2_1 b87_2_1.length cb87_2_1, .slice Ab87_3_1 b87_3_1.length cb87_3_1, .slice Ab87_4_1 b87_4_1.length cb87_4_1, .slice Ab87_5_1 b87_5_1.length cb87_5_1], .blk b108 25 [.int .i64 v94.1.W, .int .i64 v94.1.H, .slice A96 v94.1.Color.length cp97, .slice A99 v94.1.Depth.length cp100, .slice A102 v94.1.Item.length cp103, .slice A105 v94.1.Tri.length cp106], .blk b126 25 [.int .i64 v112.1.W, .int .i64 v112.1.H, .slice A114 v112.1.Color.length cp115, .slice A117 v112.1.Depth.length cp118, .slice A120 v112.1.Item.length cp121, .slice A123 v112.1.Tri.length cp124]] [RE.rd k_Ar4_Int A1 cp2 a0.Color, RE.rd kInt A5 cp6 a0.Depth, RE.rd kInt A9 cp10 a0.Item, RE.rd kInt A13 cp14 a0.Tri, RE.rd k_Level A51 cp52 v49.1.Levels, RE.rd k_Ar4_Int A75 cp76 v73.1.Color, RE.rd kInt A78 cp79 v73.1.Depth, RE.rd kInt A81 cp82 v73.1.Item, RE.rd kInt A84 cp85 v73.1.Tri, RE.rd k_Ar4_Int Ab87_2_1 cb87_2_1 b87_2_1, RE.rd kInt Ab87_3_1 cb87_3_1 b87_3_1, RE.rd kInt Ab87_4_1 cb87_4_1 b87_4_1, RE.rd kInt Ab87_5_1 cb87_5_1 b87_5_1, RE.rd k_Ar4_Int A96 cp97 v94.1.Color, RE.rd kInt A99 cp100 v94.1.Depth, RE.rd kInt A102 cp103 v94.1.Item, RE.rd kInt A105 cp106 v94.1.Tri, RE.rd k_Ar4_Int A114 cp115 v112.1.Color, RE.rd kInt A117 cp118 v112.1.Depth, RE.rd kInt A120 cp121 v112.1.Item, RE.rd kInt A123 cp124 v112.1.Tri]) ?_ ?_
            ·cases hbS : v28
             ·have hm := cond_f hbS hmS
              refine RL_cons (OpR_off (by exact wn2 rfl rfl rfl rfl) (by rfl) (by rfl) ?_)
              refine RL_cons (OpR_off (by exact wn2 rfl rfl rfl rfl) (by rfl) (by rfl) ?_)
              refine RL_cons (OpR_off (by exact wn2 rfl rfl rfl rfl) (by rfl) (by rfl) ?_)
              refine RL_cons (OpR_off (by exact wn3 rfl rfl rfl) (by rfl) (by rfl) ?_)
              refine RL_cons (OpR_off (by exact wn3 rfl rfl rfl) (by rfl) (by rfl) ?_)
              refine RL_cons (OpR_off (by exact wn3 rfl rfl rfl) (by rfl) (by rfl) ?_)
              refine RL_cons (OpR_off (by exact wn2 rfl rfl rfl rfl) (by rfl) (by rfl) ?_)
              refine RL_pure (by exact wn0 rfl) (by rfl) (by rfl) (x_pick_f (v := .bool false) (by rfl) (by rfl)) ?_
              refine RL_nil ?_
              exact ⟨⟨congrArg Value.bool (Option.some.inj hm), rfl, rfl, rfl, rfl, trivial⟩, H⟩
             ·have hm := cond_t hbS hmS
              refine RL_pure (by exact wn1 rfl rfl rfl rfl) (by rfl) (by rfl) (x_move (v := .int .i64 v94.2) (by rfl)) ?_
              refine RL_pure (by exact wn1 rfl rfl rfl rfl) (by rfl) (by rfl) (x_neq (by rfl) (by rfl)) ?_
              refine RL_pure (by exact wn1 rfl rfl rfl rfl) (by rfl) (by rfl) (x_move (v := .bool (v94.2 != 0)) (by rfl)) ?_
              obtain ⟨b130, hmS, hm⟩ := bind_some hm
              refine RL_cut 4 (fun r' w' => Agr [(140, .bool b130), (20, .pointer (some ⟨b54, 0, none⟩)), (24, .pointer (some ⟨b87, 0, none⟩)), (28, .pointer (some ⟨b126, 0, none⟩)), (29, .int .i64 v112.2), (133, .bool true)] r' ∧ Sep ok w w' [.blk b17 25 [.int .i64 a0.W, .int .i64 a0.H, .slice A1 a0.Color.length cp2, .slice A5 a0.Depth.length cp6, .slice A9 a0.Item.length cp10, .slice A13 a0.Tri.length cp14], .blk b19 32 [.int .i64 a1.Rect.X0, .int .i64 a1.Rect.Y0, .int .i64 a1.Rect.X1, .int .i64 a1.Rect.Y1, .int .i64 a1.D], .blk b21 68 [.int .i64 a4.D, .int .i64 a4.Item, .int .i64 a4.Tri, .int .i64 a4.Part, .int .i64 a4.U, .int .i64 a4.V], .blk b23 61 [.int .u8 a5.a0, .int .u8 a5.a1, .int .u8 a5.a2, .int .u8 a5.a3], .blk b25 68 [.int .i64 a8.D, .int .i64 a8.Item, .int .i64 a8.Tri, .int .i64 a8.Part, .int .i64 a8.U, .int .i64 a8.V], .blk b54 28 [.slice A51 v49.1.Levels.length cp52], .blk b87 25 [.int .i64 b87_0_1, .int .i64 b87_1_1, .slice Ab87_2_1 b87_2_1.length cb87_2_1, .slice Ab87_3_1 b87_3_1.length cb87_3_1, .slice Ab87_4_1 b87_4_1.length cb87_4_1, .slice Ab87_5_1 b87_5_1.length cb87_5_1], .blk b108 25 [.int .i64 v94.1.W, .int .i64 v94.1.H, .slice A96 v94.1.Color.length cp97, .slice A99 v94.1.Depth.length cp100, .slice A102 v94.1.Item.length cp103, .slice A105 v94.1.Tri.length cp106], .blk b126 25 [.int .i64 v112.1.W, .int .i64 v112.1.H, .slice A114 v112.1.Color.length cp115, .slice A117 v112.1.Depth.length cp118, .slice A120 v112.1.Item.length cp121, .slice A123 v112.1.Tri.length cp124]] [RE.rd k_Ar4_Int A1 cp2 a0.Color, RE.rd kInt A5 cp6 a0.Depth, RE.rd kInt A9 cp10 a0.Item, RE.rd kInt A13 cp14 a0.Tri, RE.rd k_Level A51 cp52 v49.1.Levels, RE.rd k_Ar4_Int A75 cp76 v73.1.Color, RE.rd kInt A78 cp79 v73.1.Depth, RE.rd kInt A81 cp82 v73.1.Item, RE.rd kInt A84 cp85 v73.1.Tri, RE.rd k_Ar4_Int Ab87_2_1 cb87_2_1 b87_2_1, RE.rd kInt Ab87_3_1 cb87_3_1 b87_3_1, RE.rd kInt Ab87_4_1 cb87_4_1 b87_4_1, RE.rd kInt Ab87_5_1 cb87_5_1 b87_5_1, RE.rd k_Ar4_Int A96 cp97 v94.1.Color, RE.rd kInt A99 cp100 v94.1.Depth, RE.rd kInt A102 cp103 v94.1.Item, RE.rd kInt A105 cp106 v94.1.Tri, RE.rd k_Ar4_Int A114 cp115 v112.1.Color, RE.rd kInt A117 cp118 v112.1.Depth, RE.rd kInt A120 cp121 v112.1.Item, RE.rd kInt A123 cp124 v112.1.Tri]) ?_ ?_
              ·cases hbS : (v94.2 != 0)
               ·have hm := cond_f hbS hmS
                refine RL_pure (by exact wn1 rfl rfl rfl rfl) (by rfl) (by rfl) (x_loadA (j := 0) (vs := [.int .i64 v94.1.W, .int .i64 v94.1.H, .slice A96 v94.1.Color.length cp97, .slice A99 v94.1.Depth.length cp100, .slice A102 v94.1.Item.length cp103, .slice A105 v94.1.Tri.length cp106]) ag25 (by rfl) (H.cells (i := 7) (by rfl)) (by rfl) (by rfl)) ?_
                refine RL_pure (by exact wn1 rfl rfl rfl rfl) (by rfl) (by rfl) (x_loadA (j := 0) (vs := [.int .i64 b87_0_1, .int .i64 b87_1_1, .slice Ab87_2_1 b87_2_1.length cb87_2_1, .slice Ab87_3_1 b87_3_1.length cb87_3_1, .slice Ab87_4_1 b87_4_1.length cb87_4_1, .slice Ab87_5_1 b87_5_1.length cb87_5_1]) ag25 (by rfl) (H.cells (i := 6) (by rfl)) (by rfl) (by rfl)) ?_
                obtain ⟨v132, hv131, hm⟩ := bind_some hm
                refine RL_cons (O_call (by exact wn1 rfl rfl rfl rfl) (by rfl) (by rfl) (x_callL (by rfl) (args := [.agg #[.int .i64 v94.1.W, .int .i64 v94.1.H, .slice A96 v94.1.Color.length cp97, .slice A99 v94.1.Depth.length cp100, .slice A102 v94.1.Item.length cp103, .slice A105 v94.1.Tri.length cp106], .agg #[.int .i64 b87_0_1, .int .i64 b87_1_1, .slice Ab87_2_1 b87_2_1.length cb87_2_1, .slice Ab87_3_1 b87_3_1.length cb87_3_1, .slice Ab87_4_1 b87_4_1.length cb87_4_1, .slice Ab87_5_1 b87_5_1.length cb87_5_1]]) (by rfl) (cf32 _ _)) (c32 (fun _ => True) K w128 v94.1 A96 cp97 A99 cp100 A102 cp103 A105 cp106 (⟨b87_0_1, b87_1_1, b87_2_1, b87_3_1, b87_4_1, b87_5_1⟩ : S_Frame) Ab87_2_1 cb87_2_1 Ab87_3_1 cb87_3_1 Ab87_4_1 cb87_4_1 Ab87_5_1 cb87_5_1 (H.rd (i := 13) (by rfl)).any (H.rd (i := 14) (by rfl)).any (H.rd (i := 15) (by rfl)).any (H.rd (i := 16) (by rfl)).any (H.rd (i := 9) (by rfl)).any (H.rd (i := 10) (by rfl)).any (H.rd (i := 11) (by rfl)).any (H.rd (i := 12) (by rfl)).any v132 hv131) ?_)
                rintro e w133 ⟨rfl, H2⟩
                have H : Sep ok w w133 [.blk b17 25 [.int .i64 a0.W, .int .i64 a0.H, .slice A1 a0.Color.length cp2, .slice A5 a0.Depth.length cp6, .slice A9 a0.Item.length cp10, .slice A13 a0.Tri.length cp14], .blk b19 32 [.int .i64 a1.Rect.X0, .int .i64 a1.Rect.Y0, .int .i64 a1.Rect.X1, .int .i64 a1.Rect.Y1, .int .i64 a1.D], .blk b21 68 [.int .i64 a4.D, .int .i64 a4.Item, .int .i64 a4.Tri, .int .i64 a4.Part, .int .i64 a4.U, .int .i64 a4.V], .blk b23 61 [.int .u8 a5.a0, .int .u8 a5.a1, .int .u8 a5.a2, .int .u8 a5.a3], .blk b25 68 [.int .i64 a8.D, .int .i64 a8.Item, .int .i64 a8.Tri, .int .i64 a8.Part, .int .i64 a8.U, .int .i64 a8.V], .blk b54 28 [.slice A51 v49.1.Levels.length cp52], .blk b87 25 [.int .i64 b87_0_1, .int .i64 b87_1_1, .slice Ab87_2_1 b87_2_1.length cb87_2_1, .slice Ab87_3_1 b87_3_1.length cb87_3_1, .slice Ab87_4_1 b87_4_1.length cb87_4_1, .slice Ab87_5_1 b87_5_1.length cb87_5_1], .blk b108 25 [.int .i64 v94.1.W, .int .i64 v94.1.H, .slice A96 v94.1.Color.length cp97, .slice A99 v94.1.Depth.length cp100, .slice A102 v94.1.Item.length cp103, .slice A105 v94.1.Tri.length cp106], .blk b126 25 [.int .i64 v112.1.W, .int .i64 v112.1.H, .slice A114 v112.1.Color.length cp115, .slice A117 v112.1.Depth.length cp118, .slice A120 v112.1.Item.length cp121, .slice A123 v112.1.Tri.length cp124]] [RE.rd k_Ar4_Int A1 cp2 a0.Color, RE.rd kInt A5 cp6 a0.Depth, RE.rd kInt A9 cp10 a0.Item, RE.rd kInt A13 cp14 a0.Tri, RE.rd k_Level A51 cp52 v49.1.Levels, RE.rd k_Ar4_Int A75 cp76 v73.1.Color, RE.rd kInt A78 cp79 v73.1.Depth, RE.rd kInt A81 cp82 v73.1.Item, RE.rd kInt A84 cp85 v73.1.Tri, RE.rd k_Ar4_Int Ab87_2_1 cb87_2_1 b87_2_1, RE.rd kInt Ab87_3_1 cb87_3_1 b87_3_1, RE.rd kInt Ab87_4_1 cb87_4_1 b87_4_1, RE.rd kInt Ab87_5_1 cb87_5_1 b87_5_1, RE.rd k_Ar4_Int A96 cp97 v94.1.Color, RE.rd kInt A99 cp100 v94.1.Depth, RE.rd kInt A102 cp103 v94.1.Item, RE.rd kInt A105 cp106 v94.1.Tri, RE.rd k_Ar4_Int A114 cp115 v112.1.Color, RE.rd kInt A117 cp118 v112.1.Depth, RE.rd kInt A120 cp121 v112.1.Item, RE.rd kInt A123 cp124 v112.1.Tri] := H.below H2.base
                clear H2
                refine ⟨_, rfl, ?_⟩
                show RL _ _ _ _ _ _ _
                refine RL_pure (by exact wn1 rfl rfl rfl rfl) (by rfl) (by rfl) (x_pick_f (v := .bool v132) (by rfl) (by rfl)) ?_
                refine RL_nil ?_
                exact ⟨⟨congrArg Value.bool (Option.some.inj hm), rfl, rfl, rfl, rfl, rfl, trivial⟩, H⟩
               ·have hm := cond_t hbS hmS
                refine RL_cons (OpR_off (by exact wn2 rfl rfl rfl rfl) (by rfl) (by rfl) ?_)
                refine RL_cons (OpR_off (by exact wn2 rfl rfl rfl rfl) (by rfl) (by rfl) ?_)
                refine RL_cons (OpR_off (by exact wn2 rfl rfl rfl rfl) (by rfl) (by rfl) ?_)
                refine RL_pure (by exact wn1 rfl rfl rfl rfl) (by rfl) (by rfl) (x_pick_t (v := .bool true) (by rfl) (by rfl)) ?_
                refine RL_nil ?_
                exact ⟨⟨congrArg Value.bool (Option.some.inj hm), rfl, rfl, rfl, rfl, rfl, trivial⟩, H⟩
              ·rintro r' w' ⟨hA, H⟩
               obtain ⟨r134, rfl⟩ := regen _ hA; clear hA
               obtain ⟨w135, rfl⟩ : ∃ W : World, W = w' := ⟨_, rfl⟩
               show RL _ _ _ _ _ _ _
               refine RL_pure (by exact wn0 rfl) (by rfl) (by rfl) (x_pick_t (v := .bool b130) (by rfl) (by rfl)) ?_
               refine RL_nil ?_
               exact ⟨⟨congrArg Value.bool (Option.some.inj hm), rfl, rfl, rfl, rfl, trivial⟩, H⟩
            ·rintro r' w' ⟨hA, H⟩
             obtain ⟨r136, rfl⟩ := regen _ hA; clear hA
             obtain ⟨w137, rfl⟩ : ∃ W : World, W = w' := ⟨_, rfl⟩
             show RL _ _ _ _ _ _ _
             refine RL_pure (by exact wn0 rfl) (by rfl) (by rfl) (x_move (v := .bool b129) (by rfl)) ?_
             obtain ⟨b138, hmS, hm⟩ := bind_some hm
             refine RL_cut 8 (fun r' w' => Agr [(150, .bool b138), (20, .pointer (some ⟨b54, 0, none⟩))] r' ∧ Sep ok w w' [.blk b17 25 [.int .i64 a0.W, .int .i64 a0.H, .slice A1 a0.Color.length cp2, .slice A5 a0.Depth.length cp6, .slice A9 a0.Item.length cp10, .slice A13 a0.Tri.length cp14], .blk b19 32 [.int .i64 a1.Rect.X0, .int .i64 a1.Rect.Y0, .int .i64 a1.Rect.X1, .int .i64 a1.Rect.Y1, .int .i64 a1.D], .blk b21 68 [.int .i64 a4.D, .int .i64 a4.Item, .int .i64 a4.Tri, .int .i64 a4.Part, .int .i64 a4.U, .int .i64 a4.V], .blk b23 61 [.int .u8 a5.a0, .int .u8 a5.a1, .int .u8 a5.a2, .int .u8 a5.a3], .blk b25 68 [.int .i64 a8.D, .int .i64 a8.Item, .int .i64 a8.Tri, .int .i64 a8.Part, .int .i64 a8.U, .int .i64 a8.V], .blk b54 28 [.slice A51 v49.1.Levels.length cp52], .blk b87 25 [.int .i64 b87_0_1, .int .i64 b87_1_1, .slice Ab87_2_1 b87_2_1.length cb87_2_1, .slice Ab87_3_1 b87_3_1.length cb87_3_1, .slice Ab87_4_1 b87_4_1.length cb87_4_1, .slice Ab87_5_1 b87_5_1.length cb87_5_1], .blk b108 25 [.int .i64 v94.1.W, .int .i64 v94.1.H, .slice A96 v94.1.Color.length cp97, .slice A99 v94.1.Depth.length cp100, .slice A102 v94.1.Item.length cp103, .slice A105 v94.1.Tri.length cp106], .blk b126 25 [.int .i64 v112.1.W, .int .i64 v112.1.H, .slice A114 v112.1.Color.length cp115, .slice A117 v112.1.Depth.length cp118, .slice A120 v112.1.Item.length cp121, .slice A123 v112.1.Tri.length cp124]] [RE.rd k_Ar4_Int A1 cp2 a0.Color, RE.rd kInt A5 cp6 a0.Depth, RE.rd kInt A9 cp10 a0.Item, RE.rd kInt A13 cp14 a0.Tri, RE.rd k_Level A51 cp52 v49.1.Levels, RE.rd k_Ar4_Int A75 cp76 v73.1.Color, RE.rd kInt A78 cp79 v73.1.Depth, RE.rd kInt A81 cp82 v73.1.Item, RE.rd kInt A84 cp85 v73.1.Tri, RE.rd k_Ar4_Int Ab87_2_1 cb87_2_1 b87_2_1, RE.rd kInt Ab87_3_1 cb87_3_1 b87_3_1, RE.rd kInt Ab87_4_1 cb87_4_1 b87_4_1, RE.rd kInt Ab87_5_1 cb87_5_1 b87_5_1, RE.rd k_Ar4_Int A96 cp97 v94.1.Color, RE.rd kInt A99 cp100 v94.1.Depth, RE.rd kInt A102 cp103 v94.1.Item, RE.rd kInt A105 cp106 v94.1.Tri, RE.rd k_Ar4_Int A114 cp115 v112.1.Color, RE.rd kInt A117 cp118 v112.1.Depth, RE.rd kInt A120 cp121 v112.1.Item, RE.rd kInt A123 cp124 v112.1.Tri]) ?_ ?_
             ·cases hbS : b129
              ·have hm := cond_f hbS hmS
               refine RL_cons (OpR_off (by exact wn2 rfl rfl rfl rfl) (by rfl) (by rfl) ?_)
               refine RL_cons (OpR_off (by exact wn2 rfl rfl rfl rfl) (by rfl) (by rfl) ?_)
               refine RL_cons (OpR_off (by exact wn2 rfl rfl rfl rfl) (by rfl) (by rfl) ?_)
               refine RL_cons (OpR_off (by exact wn3 rfl rfl rfl) (by rfl) (by rfl) ?_)
               refine RL_cons (OpR_off (by exact wn3 rfl rfl rfl) (by rfl) (by rfl) ?_)
               refine RL_cons (OpR_off (by exact wn3 rfl rfl rfl) (by rfl) (by rfl) ?_)
               refine RL_cons (OpR_off (by exact wn2 rfl rfl rfl rfl) (by rfl) (by rfl) ?_)
               refine RL_pure (by exact wn0 rfl) (by rfl) (by rfl) (x_pick_f (v := .bool false) (by rfl) (by rfl)) ?_
               refine RL_nil ?_
               exact ⟨⟨congrArg Value.bool (Option.some.inj hm), rfl, trivial⟩, H⟩
              ·have hm := cond_t hbS hmS
               refine RL_pure (by exact wn1 rfl rfl rfl rfl) (by rfl) (by rfl) (x_move (v := .int .i64 v112.2) (by rfl)) ?_
               refine RL_pure (by exact wn1 rfl rfl rfl rfl) (by rfl) (by rfl) (x_neq (by rfl) (by rfl)) ?_
               refine RL_pure (by exact wn1 rfl rfl rfl rfl) (by rfl) (by rfl) (x_move (v := .bool (v112.2 != 0)) (by rfl)) ?_
               obtain ⟨b139, hmS, hm⟩ := bind_some hm
               refine RL_cut 4 (fun r' w' => Agr [(149, .bool b139), (20, .pointer (some ⟨b54, 0, none⟩)), (142, .bool true)] r' ∧ Sep ok w w' [.blk b17 25 [.int .i64 a0.W, .int .i64 a0.H, .slice A1 a0.Color.length cp2, .slice A5 a0.Depth.length cp6, .slice A9 a0.Item.length cp10, .slice A13 a0.Tri.length cp14], .blk b19 32 [.int .i64 a1.Rect.X0, .int .i64 a1.Rect.Y0, .int .i64 a1.Rect.X1, .int .i64 a1.Rect.Y1, .int .i64 a1.D], .blk b21 68 [.int .i64 a4.D, .int .i64 a4.Item, .int .i64 a4.Tri, .int .i64 a4.Part, .int .i64 a4.U, .int .i64 a4.V], .blk b23 61 [.int .u8 a5.a0, .int .u8 a5.a1, .int .u8 a5.a2, .int .u8 a5.a3], .blk b25 68 [.int .i64 a8.D, .int .i64 a8.Item, .int .i64 a8.Tri, .int .i64 a8.Part, .int .i64 a8.U, .int .i64 a8.V], .blk b54 28 [.slice A51 v49.1.Levels.length cp52], .blk b87 25 [.int .i64 b87_0_1, .int .i64 b87_1_1, .slice Ab87_2_1 b87_2_1.length cb87_2_1, .slice Ab87_3_1 b87_3_1.length cb87_3_1, .slice Ab87_4_1 b87_4_1.length cb87_4_1, .slice Ab87_5_1 b87_5_1.length cb87_5_1], .blk b108 25 [.int .i64 v94.1.W, .int .i64 v94.1.H, .slice A96 v94.1.Color.length cp97, .slice A99 v94.1.Depth.length cp100, .slice A102 v94.1.Item.length cp103, .slice A105 v94.1.Tri.length cp106], .blk b126 25 [.int .i64 v112.1.W, .int .i64 v112.1.H, .slice A114 v112.1.Color.length cp115, .slice A117 v112.1.Depth.length cp118, .slice A120 v112.1.Item.length cp121, .slice A123 v112.1.Tri.length cp124]] [RE.rd k_Ar4_Int A1 cp2 a0.Color, RE.rd kInt A5 cp6 a0.Depth, RE.rd kInt A9 cp10 a0.Item, RE.rd kInt A13 cp14 a0.Tri, RE.rd k_Level A51 cp52 v49.1.Levels, RE.rd k_Ar4_Int A75 cp76 v73.1.Color, RE.rd kInt A78 cp79 v73.1.Depth, RE.rd kInt A81 cp82 v73.1.Item, RE.rd kInt A84 cp85 v73.1.Tri, RE.rd k_Ar4_Int Ab87_2_1 cb87_2_1 b87_2_1, RE.rd kInt Ab87_3_1 cb87_3_1 b87_3_1, RE.rd kInt Ab87_4_1 cb87_4_1 b87_4_1, RE.rd kInt Ab87_5_1 cb87_5_1 b87_5_1, RE.rd k_Ar4_Int A96 cp97 v94.1.Color, RE.rd kInt A99 cp100 v94.1.Depth, RE.rd kInt A102 cp103 v94.1.Item, RE.rd kInt A105 cp106 v94.1.Tri, RE.rd k_Ar4_Int A114 cp115 v112.1.Color, RE.rd kInt A117 cp118 v112.1.Depth, RE.rd kInt A120 cp121 v112.1.Item, RE.rd kInt A123 cp124 v112.1.Tri]) ?_ ?_
               ·cases hbS : (v112.2 != 0)
                ·have hm := cond_f hbS hmS
                 refine RL_pure (by exact wn1 rfl rfl rfl rfl) (by rfl) (by rfl) (x_loadA (j := 0) (vs := [.int .i64 v112.1.W, .int .i64 v112.1.H, .slice A114 v112.1.Color.length cp115, .slice A117 v112.1.Depth.length cp118, .slice A120 v112.1.Item.length cp121, .slice A123 v112.1.Tri.length cp124]) ag25 (by rfl) (H.cells (i := 8) (by rfl)) (by rfl) (by rfl)) ?_
                 refine RL_pure (by exact wn1 rfl rfl rfl rfl) (by rfl) (by rfl) (x_loadA (j := 0) (vs := [.int .i64 b87_0_1, .int .i64 b87_1_1, .slice Ab87_2_1 b87_2_1.length cb87_2_1, .slice Ab87_3_1 b87_3_1.length cb87_3_1, .slice Ab87_4_1 b87_4_1.length cb87_4_1, .slice Ab87_5_1 b87_5_1.length cb87_5_1]) ag25 (by rfl) (H.cells (i := 6) (by rfl)) (by rfl) (by rfl)) ?_
                 obtain ⟨v141, hv140, hm⟩ := bind_some hm
                 refine RL_cons (O_call (by exact wn1 rfl rfl rfl rfl) (by rfl) (by rfl) (x_callL (by rfl) (args := [.agg #[.int .i64 v112.1.W, .int .i64 v112.1.H, .slice A114 v112.1.Color.length cp115, .slice A117 v112.1.Depth.length cp118, .slice A120 v112.1.Item.length cp121, .slice A123 v112.1.Tri.length cp124], .agg #[.int .i64 b87_0_1, .int .i64 b87_1_1, .slice Ab87_2_1 b87_2_1.length cb87_2_1, .slice Ab87_3_1 b87_3_1.length cb87_3_1, .slice Ab87_4_1 b87_4_1.length cb87_4_1, .slice Ab87_5_1 b87_5_1.length cb87_5_1]]) (by rfl) (cf32 _ _)) (c32 (fun _ => True) K w137 v112.1 A114 cp115 A117 cp118 A120 cp121 A123 cp124 (⟨b87_0_1, b87_1_1, b87_2_1, b87_3_1, b87_4_1, b87_5_1⟩ : S_Frame) Ab87_2_1 cb87_2_1 Ab87_3_1 cb87_3_1 Ab87_4_1 cb87_4_1 Ab87_5_1 cb87_5_1 (H.rd (i := 17) (by rfl)).any (H.rd (i := 18) (by rfl)).any (H.rd (i := 19) (by rfl)).any (H.rd (i := 20) (by rfl)).any (H.rd (i := 9) (by rfl)).any (H.rd (i := 10) (by rfl)).any (H.rd (i := 11) (by rfl)).any (H.rd (i := 12) (by rfl)).any v141 hv140) ?_)
                 rintro e w142 ⟨rfl, H2⟩
                 have H : Sep ok w w142 [.blk b17 25 [.int .i64 a0.W, .int .i64 a0.H, .slice A1 a0.Color.length cp2, .slice A5 a0.Depth.length cp6, .slice A9 a0.Item.length cp10, .slice A13 a0.Tri.length cp14], .blk b19 32 [.int .i64 a1.Rect.X0, .int .i64 a1.Rect.Y0, .int .i64 a1.Rect.X1, .int .i64 a1.Rect.Y1, .int .i64 a1.D], .blk b21 68 [.int .i64 a4.D, .int .i64 a4.Item, .int .i64 a4.Tri, .int .i64 a4.Part, .int .i64 a4.U, .int .i64 a4.V], .blk b23 61 [.int .u8 a5.a0, .int .u8 a5.a1, .int .u8 a5.a2, .int .u8 a5.a3], .blk b25 68 [.int .i64 a8.D, .int .i64 a8.Item, .int .i64 a8.Tri, .int .i64 a8.Part, .int .i64 a8.U, .int .i64 a8.V], .blk b54 28 [.slice A51 v49.1.Levels.length cp52], .blk b87 25 [.int .i64 b87_0_1, .int .i64 b87_1_1, .slice Ab87_2_1 b87_2_1.length cb87_2_1, .slice Ab87_3_1 b87_3_1.length cb87_3_1, .slice Ab87_4_1 b87_4_1.length cb87_4_1, .slice Ab87_5_1 b87_5_1.length cb87_5_1], .blk b108 25 [.int .i64 v94.1.W, .int .i64 v94.1.H, .slice A96 v94.1.Color.length cp97, .slice A99 v94.1.Depth.length cp100, .slice A102 v94.1.Item.length cp103, .slice A105 v94.1.Tri.length cp106], .blk b126 25 [.int .i64 v112.1.W, .int .i64 v112.1.H, .slice A114 v112.1.Color.length cp115, .slice A117 v112.1.Depth.length cp118, .slice A120 v112.1.Item.length cp121, .slice A123 v112.1.Tri.length cp124]] [RE.rd k_Ar4_Int A1 cp2 a0.Color, RE.rd kInt A5 cp6 a0.Depth, RE.rd kInt A9 cp10 a0.Item, RE.rd kInt A13 cp14 a0.Tri, RE.rd k_Level A51 cp52 v49.1.Levels, RE.rd k_Ar4_Int A75 cp76 v73.1.Color, RE.rd kInt A78 cp79 v73.1.Depth, RE.rd kInt A81 cp82 v73.1.Item, RE.rd kInt A84 cp85 v73.1.Tri, RE.rd k_Ar4_Int Ab87_2_1 cb87_2_1 b87_2_1, RE.rd kInt Ab87_3_1 cb87_3_1 b87_3_1, RE.rd kInt Ab87_4_1 cb87_4_1 b87_4_1, RE.rd kInt Ab87_5_1 cb87_5_1 b87_5_1, RE.rd k_Ar4_Int A96 cp97 v94.1.Color, RE.rd kInt A99 cp100 v94.1.Depth, RE.rd kInt A102 cp103 v94.1.Item, RE.rd kInt A105 cp106 v94.1.Tri, RE.rd k_Ar4_Int A114 cp115 v112.1.Color, RE.rd kInt A117 cp118 v112.1.Depth, RE.rd kInt A120 cp121 v112.1.Item, RE.rd kInt A123 cp124 v112.1.Tri] := H.below H2.base
                 clear H2
                 refine ⟨_, rfl, ?_⟩
                 show RL _ _ _ _ _ _ _
                 refine RL_pure (by exact wn1 rfl rfl rfl rfl) (by rfl) (by rfl) (x_pick_f (v := .bool v141) (by rfl) (by rfl)) ?_
                 refine RL_nil ?_
                 exact ⟨⟨congrArg Value.bool (Option.some.inj hm), rfl, rfl, trivial⟩, H⟩
                ·have hm := cond_t hbS hmS
                 refine RL_cons (OpR_off (by exact wn2 rfl rfl rfl rfl) (by rfl) (by rfl) ?_)
                 refine RL_cons (OpR_off (by exact wn2 rfl rfl rfl rfl) (by rfl) (by rfl) ?_)
                 refine RL_cons (OpR_off (by exact wn2 rfl rfl rfl rfl) (by rfl) (by rfl) ?_)
                 refine RL_pure (by exact wn1 rfl rfl rfl rfl) (by rfl) (by rfl) (x_pick_t (v := .bool true) (by rfl) (by rfl)) ?_
                 refine RL_nil ?_
                 exact ⟨⟨congrArg Value.bool (Option.some.inj hm), rfl, rfl, trivial⟩, H⟩
               ·rintro r' w' ⟨hA, H⟩
                obtain ⟨r143, rfl⟩ := regen _ hA; clear hA
                obtain ⟨w144, rfl⟩ : ∃ W : World, W = w' := ⟨_, rfl⟩
                show RL _ _ _ _ _ _ _
                refine RL_pure (by exact wn0 rfl) (by rfl) (by rfl) (x_pick_t (v := .bool b139) (by rfl) (by rfl)) ?_
                refine RL_nil ?_
                exact ⟨⟨congrArg Value.bool (Option.some.inj hm), rfl, trivial⟩, H⟩
             ·rintro r' w' ⟨hA, H⟩
              obtain ⟨r145, rfl⟩ := regen _ hA; clear hA
              obtain ⟨w146, rfl⟩ : ∃ W : World, W = w' := ⟨_, rfl⟩
              show RL _ _ _ _ _ _ _
              refine RL_pure (by exact wn0 rfl) (by rfl) (by rfl) (x_move (v := .bool b138) (by rfl)) ?_
              obtain ⟨b147, hmS, hm⟩ := bind_some hm
              refine RL_cut 4 (fun r' w' => Agr [(155, .bool b147)] r' ∧ Sep ok w w' [.blk b17 25 [.int .i64 a0.W, .int .i64 a0.H, .slice A1 a0.Color.length cp2, .slice A5 a0.Depth.length cp6, .slice A9 a0.Item.length cp10, .slice A13 a0.Tri.length cp14], .blk b19 32 [.int .i64 a1.Rect.X0, .int .i64 a1.Rect.Y0, .int .i64 a1.Rect.X1, .int .i64 a1.Rect.Y1, .int .i64 a1.D], .blk b21 68 [.int .i64 a4.D, .int .i64 a4.Item, .int .i64 a4.Tri, .int .i64 a4.Part, .int .i64 a4.U, .int .i64 a4.V], .blk b23 61 [.int .u8 a5.a0, .int .u8 a5.a1, .int .u8 a5.a2, .int .u8 a5.a3], .blk b25 68 [.int .i64 a8.D, .int .i64 a8.Item, .int .i64 a8.Tri, .int .i64 a8.Part, .int .i64 a8.U, .int .i64 a8.V], .blk b54 28 [.slice A51 v49.1.Levels.length cp52], .blk b87 25 [.int .i64 b87_0_1, .int .i64 b87_1_1, .slice Ab87_2_1 b87_2_1.length cb87_2_1, .slice Ab87_3_1 b87_3_1.length cb87_3_1, .slice Ab87_4_1 b87_4_1.length cb87_4_1, .slice Ab87_5_1 b87_5_1.length cb87_5_1], .blk b108 25 [.int .i64 v94.1.W, .int .i64 v94.1.H, .slice A96 v94.1.Color.length cp97, .slice A99 v94.1.Depth.length cp100, .slice A102 v94.1.Item.length cp103, .slice A105 v94.1.Tri.length cp106], .blk b126 25 [.int .i64 v112.1.W, .int .i64 v112.1.H, .slice A114 v112.1.Color.length cp115, .slice A117 v112.1.Depth.length cp118, .slice A120 v112.1.Item.length cp121, .slice A123 v112.1.Tri.length cp124]] [RE.rd k_Ar4_Int A1 cp2 a0.Color, RE.rd kInt A5 cp6 a0.Depth, RE.rd kInt A9 cp10 a0.Item, RE.rd kInt A13 cp14 a0.Tri, RE.rd k_Level A51 cp52 v49.1.Levels, RE.rd k_Ar4_Int A75 cp76 v73.1.Color, RE.rd kInt A78 cp79 v73.1.Depth, RE.rd kInt A81 cp82 v73.1.Item, RE.rd kInt A84 cp85 v73.1.Tri, RE.rd k_Ar4_Int Ab87_2_1 cb87_2_1 b87_2_1, RE.rd kInt Ab87_3_1 cb87_3_1 b87_3_1, RE.rd kInt Ab87_4_1 cb87_4_1 b87_4_1, RE.rd kInt Ab87_5_1 cb87_5_1 b87_5_1, RE.rd k_Ar4_Int A96 cp97 v94.1.Color, RE.rd kInt A99 cp100 v94.1.Depth, RE.rd kInt A102 cp103 v94.1.Item, RE.rd kInt A105 cp106 v94.1.Tri, RE.rd k_Ar4_Int A114 cp115 v112.1.Color, RE.rd kInt A117 cp118 v112.1.Depth, RE.rd kInt A120 cp121 v112.1.Item, RE.rd kInt A123 cp124 v112.1.Tri]) ?_ ?_
              ·cases hbS : b138
               ·have hm := cond_f hbS hmS
                refine RL_cons (OpR_off (by exact wn2 rfl rfl rfl rfl) (by rfl) (by rfl) ?_)
                refine RL_cons (OpR_off (by exact wn2 rfl rfl rfl rfl) (by rfl) (by rfl) ?_)
                refine RL_cons (OpR_off (by exact wn2 rfl rfl rfl rfl) (by rfl) (by rfl) ?_)
                refine RL_pure (by exact wn0 rfl) (by rfl) (by rfl) (x_pick_f (v := .bool false) (by rfl) (by rfl)) ?_
                refine RL_nil ?_
                exact ⟨⟨congrArg Value.bool (Option.some.inj hm), trivial⟩, H⟩
               ·have hm := cond_t hbS hmS
                refine RL_pure (by exact wn1 rfl rfl rfl rfl) (by rfl) (by rfl) (x_loadA (j := 0) (vs := [.slice A51 v49.1.Levels.length cp52]) ag28 (by rfl) (H.cells (i := 5) (by rfl)) (by rfl) (by rfl)) ?_
                obtain ⟨v149, hv148, hm⟩ := bind_some hm
                refine RL_cons (O_call (by exact wn1 rfl rfl rfl rfl) (by rfl) (by rfl) (x_callL (by rfl) (args := [.agg #[.slice A51 v49.1.Levels.length cp52]]) (by rfl) (cf23 _ _)) (c23 (fun _ => True) K w146 v49.1 A51 cp52 (H.rd (i := 4) (by rfl)).any v149 hv148) ?_)
                rintro e w150 ⟨rfl, H2⟩
                have H : Sep ok w w150 [.blk b17 25 [.int .i64 a0.W, .int .i64 a0.H, .slice A1 a0.Color.length cp2, .slice A5 a0.Depth.length cp6, .slice A9 a0.Item.length cp10, .slice A13 a0.Tri.length cp14], .blk b19 32 [.int .i64 a1.Rect.X0, .int .i64 a1.Rect.Y0, .int .i64 a1.Rect.X1, .int .i64 a1.Rect.Y1, .int .i64 a1.D], .blk b21 68 [.int .i64 a4.D, .int .i64 a4.Item, .int .i64 a4.Tri, .int .i64 a4.Part, .int .i64 a4.U, .int .i64 a4.V], .blk b23 61 [.int .u8 a5.a0, .int .u8 a5.a1, .int .u8 a5.a2, .int .u8 a5.a3], .blk b25 68 [.int .i64 a8.D, .int .i64 a8.Item, .int .i64 a8.Tri, .int .i64 a8.Part, .int .i64 a8.U, .int .i64 a8.V], .blk b54 28 [.slice A51 v49.1.Levels.length cp52], .blk b87 25 [.int .i64 b87_0_1, .int .i64 b87_1_1, .slice Ab87_2_1 b87_2_1.length cb87_2_1, .slice Ab87_3_1 b87_3_1.length cb87_3_1, .slice Ab87_4_1 b87_4_1.length cb87_4_1, .slice Ab87_5_1 b87_5_1.length cb87_5_1], .blk b108 25 [.int .i64 v94.1.W, .int .i64 v94.1.H, .slice A96 v94.1.Color.length cp97, .slice A99 v94.1.Depth.length cp100, .slice A102 v94.1.Item.length cp103, .slice A105 v94.1.Tri.length cp106], .blk b126 25 [.int .i64 v112.1.W, .int .i64 v112.1.H, .slice A114 v112.1.Color.length cp115, .slice A117 v112.1.Depth.length cp118, .slice A120 v112.1.Item.length cp121, .slice A123 v112.1.Tri.length cp124]] [RE.rd k_Ar4_Int A1 cp2 a0.Color, RE.rd kInt A5 cp6 a0.Depth, RE.rd kInt A9 cp10 a0.Item, RE.rd kInt A13 cp14 a0.Tri, RE.rd k_Level A51 cp52 v49.1.Levels, RE.rd k_Ar4_Int A75 cp76 v73.1.Color, RE.rd kInt A78 cp79 v73.1.Depth, RE.rd kInt A81 cp82 v73.1.Item, RE.rd kInt A84 cp85 v73.1.Tri, RE.rd k_Ar4_Int Ab87_2_1 cb87_2_1 b87_2_1, RE.rd kInt Ab87_3_1 cb87_3_1 b87_3_1, RE.rd kInt Ab87_4_1 cb87_4_1 b87_4_1, RE.rd kInt Ab87_5_1 cb87_5_1 b87_5_1, RE.rd k_Ar4_Int A96 cp97 v94.1.Color, RE.rd kInt A99 cp100 v94.1.Depth, RE.rd kInt A102 cp103 v94.1.Item, RE.rd kInt A105 cp106 v94.1.Tri, RE.rd k_Ar4_Int A114 cp115 v112.1.Color, RE.rd kInt A117 cp118 v112.1.Depth, RE.rd kInt A120 cp121 v112.1.Item, RE.rd kInt A123 cp124 v112.1.Tri] := H.below H2.base
                clear H2
                refine ⟨_, rfl, ?_⟩
                show RL _ _ _ _ _ _ _
                refine RL_pure (by exact wn1 rfl rfl rfl rfl) (by rfl) (by rfl) (x_eql (by rfl) (by rfl)) ?_
                refine RL_pure (by exact wn0 rfl) (by rfl) (by rfl) (x_pick_t (v := .bool (v149 == 0)) (by rfl) (by rfl)) ?_
                refine RL_nil ?_
                exact ⟨⟨congrArg Value.bool (Option.some.inj hm), trivial⟩, H⟩
              ·rintro r' w' ⟨hA, H⟩
               obtain ⟨r151, rfl⟩ := regen _ hA; clear hA
               obtain ⟨w152, rfl⟩ : ∃ W : World, W = w' := ⟨_, rfl⟩
               show RL _ _ _ _ _ _ _
               refine RL_pure (by exact wn0 rfl) (by rfl) (by rfl) (x_assign (v := .bool b147) (by rfl)) ?_
               refine RL_nil ?_
               refine W_ret ?_
               obtain rfl := Option.some.inj hm
               exact ⟨[.bool b147], (.tmp (by rfl) rfl), rfl, H.none_⟩
end Go.Proofs.YtobkigllalbkiaaV.M

/- PyramidHides, in plain Lean: its model answers true. -/
set_option linter.unusedVariables false
set_option linter.unusedSimpArgs false
namespace Go.Proofs.YtobkigllalbkiaaV.M
theorem m59_eq {K : Nat} {l : List Int} (h : l.length ≤ 1000000) : m59 K l = some l := by unfold m59; rw [apds_in (by simp; omega)]; rfl
theorem m113_eq {K : Nat} {l : List (Ar4 Int)} (h : l.length ≤ 1000000) : m113 K l = some l := by unfold m113; rw [apds_in (by simp; omega)]; rfl
/-- twin: the frame and the pixel's place, or a refusal. -/
theorem m69_eq {K : Nat} (hK : 10000 ≤ K) {f : S_Frame} {w h : Nat} (q : FOK f w h) (x y : Int) :
    (∃ px py : Nat, x = (px : Int) ∧ y = (py : Int) ∧ px < w ∧ py < h ∧ m69 K f x y = some ((⟨f⟩ : S_open), ((py * w + px : Nat) : Int), 0)) ∨ (¬ (0 ≤ x ∧ x < w ∧ 0 ≤ y ∧ y < h) ∧ m69 K f x y = some ((⟨⟨0, 0, [], [], [], []⟩⟩ : S_open), 0, 2)) := by
  obtain ⟨e, k1, k2, k3⟩ := m33_eq hK f
  obtain rfl : e = 0 := k3.2 ⟨w, h, q⟩
  have hp := q.prodle
  unfold m69
  rw [k1, Option.bind_some, show ((0 : Int) != 0) = false from rfl, cond_false, q.W, q.H]
  by_cases c1 : x < 0
  · exact .inr ⟨by omega, by rw [decide_eq_true c1]; rfl⟩
  by_cases c2 : (w : Int) ≤ x
  · exact .inr ⟨by omega, by rw [decide_eq_false c1, decide_eq_true c2]; rfl⟩
  by_cases c3 : y < 0
  · exact .inr ⟨by omega, by rw [decide_eq_false c1, decide_eq_false c2, decide_eq_true c3]; rfl⟩
  by_cases c4 : (h : Int) ≤ y
  · exact .inr ⟨by omega, by rw [decide_eq_false c1, decide_eq_false c2, decide_eq_false c3, decide_eq_true c4]; rfl⟩
  obtain ⟨px, rfl⟩ : ∃ px : Nat, x = (px : Int) := ⟨x.toNat, by omega⟩
  obtain ⟨py, rfl⟩ : ∃ py : Nat, y = (py : Int) := ⟨y.toNat, by omega⟩
  have hx : px < w := by omega
  have hy : py < h := by omega
  have hlt := place_lt hx hy
  have e1 : (py : Int) * (w : Int) = ((py * w : Nat) : Int) := by push_cast; rfl
  have e2 : ((py * w : Nat) : Int) + (px : Int) = ((py * w + px : Nat) : Int) := by push_cast; rfl
  refine .inl ⟨px, py, rfl, rfl, hx, hy, ?_⟩
  rw [decide_eq_false c1, decide_eq_false c2, decide_eq_false c3, decide_eq_false c4]
  simp only [cond_false, Option.bind_some]
  rw [e1, ck_nat (by omega), e2, ck_nat (by omega), m113_eq (by rw [q.c]; omega), m59_eq (by rw [q.d]; omega), m59_eq (by rw [q.i]; omega), m59_eq (by rw [q.t]; omega)]
  simp only [Option.bind_some]
  have h1 := q.W
  have h2 := q.H
  cases f
  simp only at h1 h2
  subst h1; subst h2; rfl
theorem m117_eq (K : Nat) (a b : Int) : m117 K a b = some (if a < b then -1 else if b < a then 1 else 0) := by
  unfold m117 m134
  simp only [Option.bind_some, bne_self_eq_false, cond_false]
  by_cases h1 : a < b
  · rw [decide_eq_true h1, if_pos h1]; rfl
  · rw [decide_eq_false h1, if_neg h1]
    by_cases h2 : b < a
    · rw [decide_eq_true h2, if_pos h2]; rfl
    · rw [decide_eq_false h2, if_neg h2]; rfl
/-- The first of four that is not 0. -/
theorem m116_four {K : Nat} (hK : 100 ≤ K) (a b c d : Int) : m116 K [a, b, c, d] = some (if a ≠ 0 then a else if b ≠ 0 then b else if c ≠ 0 then c else d) := by
  obtain ⟨k, rfl⟩ : ∃ k, K = k + 5 := ⟨K - 5, by omega⟩
  unfold m116
  have len : (([a, b, c, d] : List Int).length : Int) = 4 := rfl
  have c1 : ∀ {α : Type} (k : Int → Option α), ck ((0 : Int) + 1) k = k 1 := fun k => ck_in (by omega) (by omega)
  have c2 : ∀ {α : Type} (k : Int → Option α), ck ((1 : Int) + 1) k = k 2 := fun k => ck_in (by omega) (by omega)
  have c3 : ∀ {α : Type} (k : Int → Option α), ck ((2 : Int) + 1) k = k 3 := fun k => ck_in (by omega) (by omega)
  have c4 : ∀ {α : Type} (k : Int → Option α), ck ((3 : Int) + 1) k = k 4 := fun k => ck_in (by omega) (by omega)
  have g0 : ∀ {β : Type} (k : Int → Option β), idx [a, b, c, d] 0 k = k a := fun k => rfl
  have g1 : ∀ {β : Type} (k : Int → Option β), idx [a, b, c, d] 1 k = k b := fun k => rfl
  have g2 : ∀ {β : Type} (k : Int → Option β), idx [a, b, c, d] 2 k = k c := fun k => rfl
  have g3 : ∀ {β : Type} (k : Int → Option β), idx [a, b, c, d] 3 k = k d := fun k => rfl
  have d0 : decide ((0 : Int) < 4) = true := rfl
  have d1 : decide ((1 : Int) < 4) = true := rfl
  have d2 : decide ((2 : Int) < 4) = true := rfl
  have d3 : decide ((3 : Int) < 4) = true := rfl
  have d4 : decide ((4 : Int) < 4) = false := rfl
  simp only [m116_l1, m116_l1b, len, d0, d1, d2, d3, d4, cond_true, cond_false, g0, g1, g2, g3, c1, c2, c3, c4]
  have sw : ∀ (z : Int) (x y : Option Int), (bif (z != 0) then x else y) = if z ≠ 0 then x else y := fun z x y => by
    by_cases hz : z = 0
    · subst hz; rfl
    · rw [if_pos hz, show (z != 0) = true by simp [hz]]; rfl
  simp only [sw]
  by_cases ha : a = 0
  · by_cases hb : b = 0
    · by_cases hc : c = 0
      · by_cases hd : d = 0
        · simp [ha, hb, hc, hd]
        · simp [ha, hb, hc, hd]
      · simp [ha, hb, hc]
    · simp [ha, hb]
  · simp [ha]
theorem m76_lt {K : Nat} (hK : 100 ≤ K) {a b : S_Frag} (h : a.D < b.D) : m76 K a b = some false := by
  unfold m76
  simp only [m117_eq, Option.bind_some, m116_four hK]
  rw [if_neg (show ¬ b.D < a.D by omega), if_pos h]
  rfl
theorem m76_total {K : Nat} (hK : 100 ≤ K) (a b : S_Frag) : ∃ r, m76 K a b = some r ∧ (r = true → b.D ≤ a.D) := by
  unfold m76
  simp only [m117_eq, Option.bind_some, m116_four hK]
  refine ⟨_, rfl, fun h => ?_⟩
  by_cases h1 : a.D < b.D
  · exfalso
    rw [if_neg (show ¬ b.D < a.D by omega), if_pos h1] at h
    simp at h
  · omega
/-- A pixel that somebody has, as near as or nearer than d. -/
def Near (f : S_Frame) (j : Nat) (m : Int) : Prop := ∃ d it tr, f.Depth[j]? = some d ∧ f.Item[j]? = some it ∧ f.Tri[j]? = some tr ∧ m ≤ d ∧ 0 ≤ it
/-- What is not nearer is not put. -/
theorem m30_keep {K : Nat} (hK : 10000 ≤ K) {f : S_Frame} {w h px py : Nat} (q : FOK f w h) (hx : px < w) (hy : py < h) {m : Int} (hn : Near f (py * w + px) m) {g : S_Frag} (hg : g.D < m) (c : Ar4 Int) :
    ∃ r, m30 K f px py g c = some r ∧ (r.2 ≠ 0 ∨ r = (f, 0)) := by
  obtain ⟨d, it, tr, g1, g2, g3, hd, hit⟩ := hn
  rcases m69_eq hK q px py with ⟨px', py', e1, e2, _, _, e⟩ | ⟨hno, _⟩
  · obtain rfl : px = px' := by omega
    obtain rfl : py = py' := by omega
    obtain ⟨b, eb, hb⟩ := m75_eq K g.D g.Item g.Tri
    unfold m30
    rw [e, Option.bind_some, show (((⟨f⟩, ((py * w + px : Nat) : Int), 0) : S_open × Int × Int).2.2 != 0) = false from rfl, cond_false, eb, Option.bind_some]
    cases b with
    | false => exact ⟨_, rfl, .inl (by decide)⟩
    | true =>
      rw [Bool.not_true, cond_false]
      unfold m71
      simp only [idx_nat g2, idx_nat g1, idx_nat g3, Option.bind_some]
      rw [decide_eq_false (show ¬ it < 0 by omega), cond_false, m76_lt (by omega) (show (⟨g.D, g.Item, g.Tri, 0, g.U, g.V⟩ : S_Frag).D < (⟨d, it, tr, 0, 0, 0⟩ : S_Frag).D by show g.D < d; omega)]
      exact ⟨_, rfl, .inr rfl⟩
  · exact absurd ⟨by omega, by omega, by omega, by omega⟩ hno
theorem m27_keep {K : Nat} (hK : 10000 ≤ K) {f : S_Frame} {w h px py : Nat} (q : FOK f w h) (hx : px < w) (hy : py < h) {m : Int} (hn : Near f (py * w + px) m) {gd : Int} (hg : gd < m) (c : Ar4 Int) :
    ∃ r, m27 K f px py gd c = some r ∧ (r.2 ≠ 0 ∨ r = (f, 0)) := by
  obtain ⟨d, it, tr, g1, g2, g3, hd, hit⟩ := hn
  rcases m69_eq hK q px py with ⟨px', py', e1, e2, _, _, e⟩ | ⟨hno, _⟩
  · obtain rfl : px = px' := by omega
    obtain rfl : py = py' := by omega
    obtain ⟨b, eb, hb⟩ := m70_eq K gd
    unfold m27
    rw [e, Option.bind_some, show (((⟨f⟩, ((py * w + px : Nat) : Int), 0) : S_open × Int × Int).2.2 != 0) = false from rfl, cond_false, eb, Option.bind_some]
    cases b with
    | false => exact ⟨_, rfl, .inl (by decide)⟩
    | true =>
      rw [Bool.not_true, cond_false]
      unfold m71
      simp only [idx_nat g2, idx_nat g1, Option.bind_some]
      rw [decide_eq_false (show ¬ it < 0 by omega), cond_false, decide_eq_false (show ¬ d < gd by omega), Option.bind_some, cond_false]
      exact ⟨_, rfl, .inr rfl⟩
  · exact absurd ⟨by omega, by omega, by omega, by omega⟩ hno
/-- Put, at any pixel: a refusal, or a frame that may be, in which every pixel is as near as it was, or nearer. -/
theorem m30_any {K : Nat} (hK : 10000 ≤ K) {f : S_Frame} {w h : Nat} (q : FOK f w h) (x y : Int) (g : S_Frag) (c : Ar4 Int) :
    ∃ r, m30 K f x y g c = some r ∧ (r.2 ≠ 0 ∨ (FOK r.1 w h ∧ ∀ (j : Nat) (m : Int), Near f j m → Near r.1 j m)) := by
  rcases m69_eq hK q x y with ⟨px, py, rfl, rfl, hx, hy, e⟩ | ⟨_, e⟩
  · obtain ⟨d, it, tr, g1, g2, g3, _, hpix⟩ := q.at_ hx hy
    have hlt := place_lt hx hy
    obtain ⟨col, g4⟩ : ∃ col, f.Color[py * w + px]? = some col := ⟨_, List.getElem?_eq_getElem (by rw [q.c]; exact hlt)⟩
    obtain ⟨b, eb, hb⟩ := m75_eq K g.D g.Item g.Tri
    obtain ⟨r7, e7, h7⟩ := m76_total (K := K) (by omega) (⟨g.D, g.Item, g.Tri, 0, g.U, g.V⟩ : S_Frag) (⟨d, it, tr, 0, 0, 0⟩ : S_Frag)
    unfold m30
    rw [e, Option.bind_some, show (((⟨f⟩, ((py * w + px : Nat) : Int), 0) : S_open × Int × Int).2.2 != 0) = false from rfl, cond_false, eb, Option.bind_some]
    cases b with
    | false => exact ⟨_, rfl, .inl (by decide)⟩
    | true =>
      have hsome := hb.1 rfl
      rw [Bool.not_true, cond_false]
      unfold m71
      simp only [idx_nat g2, idx_nat g1, idx_nat g3, idx_nat g4, Option.bind_some, e7, lete_in, m30_j1]
      have key : ∃ bb, ((bif decide (it < 0) then some true else some r7) : Option Bool) = some bb ∧ (bb = true → it < 0 ∨ d ≤ g.D) := by
        by_cases hn : it < 0
        · exact ⟨true, by rw [decide_eq_true hn]; rfl, fun _ => .inl hn⟩
        · exact ⟨r7, by rw [decide_eq_false hn]; rfl, fun h => .inr (h7 h)⟩
      obtain ⟨bb, ebb, hbb⟩ := key
      rw [ebb, Option.bind_some]
      cases bb with
      | false => exact ⟨_, rfl, .inr ⟨q, fun j m h => h⟩⟩
      | true =>
        have hbb := hbb rfl
        refine ⟨_, rfl, .inr ⟨⟨q.W, q.H, q.w1, q.w64, q.h1, q.h64, ?_, ?_, ?_, ?_, ?_⟩, ?_⟩⟩
        · rw [List.length_set]; exact q.c
        · rw [List.length_set]; exact q.d
        · rw [List.length_set]; exact q.i
        · rw [List.length_set]; exact q.t
        · intro j d' it' tr' k1 k2 k3
          rw [Int.toNat_natCast] at k1 k2 k3
          by_cases hj : py * w + px = j
          · subst hj
            rw [List.getElem?_set_self (by rw [q.d]; exact hlt)] at k1
            rw [List.getElem?_set_self (by rw [q.i]; exact hlt)] at k2
            rw [List.getElem?_set_self (by rw [q.t]; exact hlt)] at k3
            cases k1; cases k2; cases k3
            exact .inr hsome
          · rw [List.getElem?_set_ne hj] at k1 k2 k3
            exact q.pix j _ _ _ k1 k2 k3
        · intro j m hn
          obtain ⟨d', it', tr', k1, k2, k3, hm, hi⟩ := hn
          by_cases hj : py * w + px = j
          · subst hj
            rw [g1] at k1; rw [g2] at k2
            cases k1; cases k2
            refine ⟨g.D, g.Item, g.Tri, ?_, ?_, ?_, by omega, hsome.2.2.1⟩
            · show (f.Depth.set _ _)[_]? = _
              rw [Int.toNat_natCast, List.getElem?_set_self (by rw [q.d]; exact hlt)]
            · show (f.Item.set _ _)[_]? = _
              rw [Int.toNat_natCast, List.getElem?_set_self (by rw [q.i]; exact hlt)]
            · show (f.Tri.set _ _)[_]? = _
              rw [Int.toNat_natCast, List.getElem?_set_self (by rw [q.t]; exact hlt)]
          · refine ⟨d', it', tr', ?_, ?_, ?_, hm, hi⟩
            · show (f.Depth.set _ _)[_]? = _
              rw [Int.toNat_natCast, List.getElem?_set_ne hj]; exact k1
            · show (f.Item.set _ _)[_]? = _
              rw [Int.toNat_natCast, List.getElem?_set_ne hj]; exact k2
            · show (f.Tri.set _ _)[_]? = _
              rw [Int.toNat_natCast, List.getElem?_set_ne hj]; exact k3
  · unfold m30
    rw [e]
    exact ⟨_, rfl, .inl (by decide)⟩
/-- Behind whatever was put: what is laid or put there changes nothing. -/
theorem m7_j1_eq {K : Nat} (hK : 10000 ≤ K) {f : S_Frame} {w h px py : Nat} (q : FOK f w h) (hx : px < w) (hy : py < h) {m : Int} (hn : Near f (py * w + px) m) {g : S_Frag} (hg : g.D < m) (c : Ar4 Int) {p : S_Pyramid} {e : Int} (hp : m23 K p = some 0) :
    m7_j1 K px py g c true (p, e) f.W f.H f.Color f.Depth f.Item f.Tri = some true := by
  unfold m7_j1
  have ef : (⟨f.W, f.H, f.Color, f.Depth, f.Item, f.Tri⟩ : S_Frame) = f := rfl
  have hpl := q.prodle
  have hsame : m32 K f f = some true := m32_refl hK (by rw [q.c]; omega) (by rw [q.d]; omega) (by rw [q.i]; omega) (by rw [q.t]; omega)
  obtain ⟨r1, k1, h1⟩ := m30_keep hK q hx hy hn hg c
  obtain ⟨r2, k2, h2⟩ := m27_keep hK q hx hy hn hg c
  rw [ef, k1, Option.bind_some, k2, Option.bind_some]
  have s1 : (bif (r1.2 != 0) then some true else (m32 K r1.1 f).bind fun v132 => some v132) = some true := by
    rcases h1 with h1 | rfl
    · rw [show (r1.2 != 0) = true by simp [h1]]; rfl
    · rw [show (((f, (0 : Int)) : S_Frame × Int).2 != 0) = false from rfl, cond_false]
      show (m32 K f f).bind _ = _
      rw [hsame]; rfl
  have s2 : (bif (r2.2 != 0) then some true else (m32 K r2.1 f).bind fun v141 => some v141) = some true := by
    rcases h2 with h2 | rfl
    · rw [show (r2.2 != 0) = true by simp [h2]]; rfl
    · rw [show (((f, (0 : Int)) : S_Frame × Int).2 != 0) = false from rfl, cond_false]
      show (m32 K f f).bind _ = _
      rw [hsame]; rfl
  rw [s1, s2]
  simp only [cond_true, Option.bind_some, hp]
  rfl
/-- PyramidHides' model says true. -/
theorem m7_true {K : Nat} (hK : 10000 ≤ K) (hal : m34 K = some true) (f : S_Frame) (s : S_Shade) (x y : Int) (g : S_Frag) (c : Ar4 Int) (z u : Int) (other : S_Frag) : m7 K f s x y g c z u other = some true := by
  unfold m7
  rw [hal, Option.bind_some, show (!true) = false from rfl, cond_false]
  obtain ⟨b, hb⟩ : ∃ b, m11 K f = some b := by
    unfold m11
    cases decide (5000 < (f.Color.length : Int)) <;> cases decide (5000 < (f.Depth.length : Int)) <;> cases decide (5000 < (f.Item.length : Int)) <;> cases decide (5000 < (f.Tri.length : Int)) <;> exact ⟨_, rfl⟩
  rw [hb, Option.bind_some]
  cases b with
  | true => rfl
  | false =>
    by_cases c1 : x < s.Rect.X0
    · rw [decide_eq_true c1]; rfl
    by_cases c2 : s.Rect.X1 < x
    · rw [decide_eq_false c1, decide_eq_true c2]; rfl
    by_cases c3 : y < s.Rect.Y0
    · rw [decide_eq_false c1, decide_eq_false c2, decide_eq_true c3]; rfl
    by_cases c4 : s.Rect.Y1 < y
    · rw [decide_eq_false c1, decide_eq_false c2, decide_eq_false c3, decide_eq_true c4]; rfl
    by_cases c5 : s.D < g.D
    · rw [decide_eq_false c1, decide_eq_false c2, decide_eq_false c3, decide_eq_false c4, decide_eq_true c5]; rfl
    rw [decide_eq_false c1, decide_eq_false c2, decide_eq_false c3, decide_eq_false c4, decide_eq_false c5]
    simp only [cond_false, Option.bind_some]
    rcases m15_eq hK f with ⟨w, h, q, e⟩ | ⟨_, e⟩
    · rw [e, Option.bind_some]
      have d := q.dom
      have hpl := q.prodle
      show ((m19 K ⟨pyr w h (dv f w)⟩ s).bind _) = _
      unfold m19
      rcases m17_pyr hK d s.Rect with ⟨_, e17⟩ | ⟨hr, m, e17, hm⟩
      · rw [e17]; rfl
      · rw [e17, Option.bind_some, show (((m, (0 : Int)) : Int × Int).2 != 0) = false from rfl, cond_false]
        by_cases r1 : s.D < -1024
        · rw [decide_eq_true r1]; rfl
        by_cases r2 : 66560 < s.D
        · rw [decide_eq_false r1, decide_eq_true r2]; rfl
        rw [decide_eq_false r1, decide_eq_false r2]
        by_cases hid : s.D < m
        · rw [show (decide (s.D < ((m, (0 : Int)) : Int × Int).1)) = true from decide_eq_true hid]
          simp only [cond_false, Option.bind_some, Bool.not_true, bne_self_eq_false]
          obtain ⟨p1, p2, p3, p4, p5, p6⟩ := hr
          obtain ⟨px, rfl⟩ : ∃ px : Nat, x = (px : Int) := ⟨x.toNat, by omega⟩
          obtain ⟨py, rfl⟩ : ∃ py : Nat, y = (py : Int) := ⟨y.toNat, by omega⟩
          have hx : px < w := by omega
          have hy : py < h := by omega
          have hall := hm.all px py hx hy ⟨by omega, by omega, by omega, by omega⟩
          obtain ⟨dd, it, tr, g1, g2, g3, ev, hpix⟩ := q.at_ hx hy
          have hn : Near f (py * w + px) m := by
            refine ⟨dd, it, tr, g1, g2, g3, by omega, ?_⟩
            rcases hpix with ⟨h1, _⟩ | h1
            · omega
            · exact h1.2.2.1
          have h23 := m23_pyr hK d
          obtain ⟨r, er, hr'⟩ := m30_any hK q z u other c
          rw [er, Option.bind_some]
          by_cases hr0 : r.2 = 0
          · rw [show (r.2 != 0) = false by simp [hr0], cond_false]
            rcases hr' with hr' | ⟨q', hnear⟩
            · exact absurd hr0 hr'
            · exact m7_j1_eq hK q' hx hy (hnear _ _ hn) (by omega) c h23
          · rw [show (r.2 != 0) = true by simp [hr0], cond_true]
            exact m7_j1_eq hK q hx hy hn (by omega) c h23
        · rw [show (decide (s.D < ((m, (0 : Int)) : Int × Int).1)) = false from decide_eq_false hid]; rfl
    · rw [e, Option.bind_some]
      have h17 : m17 K ⟨[]⟩ s.Rect = some (0, 8) := rfl
      show ((m19 K ⟨[]⟩ s).bind _) = _
      unfold m19
      rw [h17]; rfl
end Go.Proofs.YtobkigllalbkiaaV.M

set_option linter.unusedVariables false
namespace Go.Proofs.Ytobkigllalbkiaa.PyramidHidesLaw
open Go.ChangeShapes Go.WideShapes Go.ChangeAt Go.RowKit Go.Proofs.YtobkigllalbkiaaV Go.Proofs.YtobkigllalbkiaaV.M

theorem op3 : Opn Try.prog 3 kInt := Opn.int (by kernel_rfl) (by kernel_rfl)
theorem op5 : Opn Try.prog 5 kI_u8 := Opn.int (by kernel_rfl) (by kernel_rfl)
theorem op61 : Opn Try.prog 61 k_Ar4_Int where
  sz := by kernel_rfl
  down := fun {H enc w fuel cs x} h => by
    have hlen := trod_len (n := 4) (by kernel_rfl) (by kernel_rfl) h
    match cs, hlen, h with
    | [v0, v1, v2, v3], _, h =>
      obtain ⟨n0, y0, t0⟩ := trod_part (len := 4) (e := 5) (by kernel_rfl) (sz := 1) (by kernel_rfl) 0 (by rfl) h
      obtain ⟨a0, h0⟩ := op5.down t0
      have h0 : [v0] = [.int .u8 a0] := h0
      simp only [List.cons.injEq, and_true] at h0
      obtain rfl := h0
      obtain ⟨n1, y1, t1⟩ := trod_part (len := 4) (e := 5) (by kernel_rfl) (sz := 1) (by kernel_rfl) 1 (by rfl) h
      obtain ⟨a1, h1⟩ := op5.down t1
      have h1 : [v1] = [.int .u8 a1] := h1
      simp only [List.cons.injEq, and_true] at h1
      obtain rfl := h1
      obtain ⟨n2, y2, t2⟩ := trod_part (len := 4) (e := 5) (by kernel_rfl) (sz := 1) (by kernel_rfl) 2 (by rfl) h
      obtain ⟨a2, h2⟩ := op5.down t2
      have h2 : [v2] = [.int .u8 a2] := h2
      simp only [List.cons.injEq, and_true] at h2
      obtain rfl := h2
      obtain ⟨n3, y3, t3⟩ := trod_part (len := 4) (e := 5) (by kernel_rfl) (sz := 1) (by kernel_rfl) 3 (by rfl) h
      obtain ⟨a3, h3⟩ := op5.down t3
      have h3 : [v3] = [.int .u8 a3] := h3
      simp only [List.cons.injEq, and_true] at h3
      obtain rfl := h3
      exact ⟨(⟨a0, a1, a2, a3⟩ : (Ar4 Int)), rfl⟩
theorem op22 : Opn Try.prog 22 (Kd.slice k_Ar4_Int) := Opn.slice (by kernel_rfl) (by kernel_rfl) op61 (by show 0 < 4; omega)
theorem op23 : Opn Try.prog 23 (Kd.slice kInt) := Opn.slice (by kernel_rfl) (by kernel_rfl) op3 (by show 0 < 1; omega)
theorem op25 : Opn Try.prog 25 k_Frame where
  sz := by kernel_rfl
  down := fun {H enc w fuel cs x} h => by
    have hlen := trod_len (n := 6) (by kernel_rfl) (by kernel_rfl) h
    match cs, hlen, h with
    | [v0, v1, v2, v3, v4, v5], _, h =>
      obtain ⟨n0, y0, t0⟩ := trod_field (i := 0) (T := 3) (off := 0) (sz := 1) (by kernel_rfl) h
      obtain ⟨a0, h0⟩ := op3.down t0
      have h0 : [v0] = [.int .i64 a0] := h0
      simp only [List.cons.injEq, and_true] at h0
      obtain rfl := h0
      obtain ⟨n1, y1, t1⟩ := trod_field (i := 1) (T := 3) (off := 1) (sz := 1) (by kernel_rfl) h
      obtain ⟨a1, h1⟩ := op3.down t1
      have h1 : [v1] = [.int .i64 a1] := h1
      simp only [List.cons.injEq, and_true] at h1
      obtain rfl := h1
      obtain ⟨n2, y2, t2⟩ := trod_field (i := 2) (T := 22) (off := 2) (sz := 1) (by kernel_rfl) h
      obtain ⟨a2, h2⟩ := op22.down t2
      obtain ⟨A2_0, c2_0, h2, hR2_0⟩ := h2
      have h2 : [v2] = [.slice A2_0 a2.length c2_0] := h2
      simp only [List.cons.injEq, and_true] at h2
      obtain rfl := h2
      obtain ⟨n3, y3, t3⟩ := trod_field (i := 3) (T := 23) (off := 3) (sz := 1) (by kernel_rfl) h
      obtain ⟨a3, h3⟩ := op23.down t3
      obtain ⟨A3_0, c3_0, h3, hR3_0⟩ := h3
      have h3 : [v3] = [.slice A3_0 a3.length c3_0] := h3
      simp only [List.cons.injEq, and_true] at h3
      obtain rfl := h3
      obtain ⟨n4, y4, t4⟩ := trod_field (i := 4) (T := 23) (off := 4) (sz := 1) (by kernel_rfl) h
      obtain ⟨a4, h4⟩ := op23.down t4
      obtain ⟨A4_0, c4_0, h4, hR4_0⟩ := h4
      have h4 : [v4] = [.slice A4_0 a4.length c4_0] := h4
      simp only [List.cons.injEq, and_true] at h4
      obtain rfl := h4
      obtain ⟨n5, y5, t5⟩ := trod_field (i := 5) (T := 23) (off := 5) (sz := 1) (by kernel_rfl) h
      obtain ⟨a5, h5⟩ := op23.down t5
      obtain ⟨A5_0, c5_0, h5, hR5_0⟩ := h5
      have h5 : [v5] = [.slice A5_0 a5.length c5_0] := h5
      simp only [List.cons.injEq, and_true] at h5
      obtain rfl := h5
      exact ⟨(⟨a0, a1, a2, a3, a4, a5⟩ : S_Frame), A2_0, c2_0, A3_0, c3_0, A4_0, c4_0, A5_0, c5_0, rfl, hR2_0, hR3_0, hR4_0, hR5_0⟩
theorem op30 : Opn Try.prog 30 k_Rect where
  sz := by kernel_rfl
  down := fun {H enc w fuel cs x} h => by
    have hlen := trod_len (n := 4) (by kernel_rfl) (by kernel_rfl) h
    match cs, hlen, h with
    | [v0, v1, v2, v3], _, h =>
      obtain ⟨n0, y0, t0⟩ := trod_field (i := 0) (T := 3) (off := 0) (sz := 1) (by kernel_rfl) h
      obtain ⟨a0, h0⟩ := op3.down t0
      have h0 : [v0] = [.int .i64 a0] := h0
      simp only [List.cons.injEq, and_true] at h0
      obtain rfl := h0
      obtain ⟨n1, y1, t1⟩ := trod_field (i := 1) (T := 3) (off := 1) (sz := 1) (by kernel_rfl) h
      obtain ⟨a1, h1⟩ := op3.down t1
      have h1 : [v1] = [.int .i64 a1] := h1
      simp only [List.cons.injEq, and_true] at h1
      obtain rfl := h1
      obtain ⟨n2, y2, t2⟩ := trod_field (i := 2) (T := 3) (off := 2) (sz := 1) (by kernel_rfl) h
      obtain ⟨a2, h2⟩ := op3.down t2
      have h2 : [v2] = [.int .i64 a2] := h2
      simp only [List.cons.injEq, and_true] at h2
      obtain rfl := h2
      obtain ⟨n3, y3, t3⟩ := trod_field (i := 3) (T := 3) (off := 3) (sz := 1) (by kernel_rfl) h
      obtain ⟨a3, h3⟩ := op3.down t3
      have h3 : [v3] = [.int .i64 a3] := h3
      simp only [List.cons.injEq, and_true] at h3
      obtain rfl := h3
      exact ⟨(⟨a0, a1, a2, a3⟩ : S_Rect), rfl⟩
theorem op32 : Opn Try.prog 32 k_Shade where
  sz := by kernel_rfl
  down := fun {H enc w fuel cs x} h => by
    have hlen := trod_len (n := 5) (by kernel_rfl) (by kernel_rfl) h
    match cs, hlen, h with
    | [v0, v1, v2, v3, v4], _, h =>
      obtain ⟨n0, y0, t0⟩ := trod_field (i := 0) (T := 30) (off := 0) (sz := 4) (by kernel_rfl) h
      obtain ⟨a0, h0⟩ := op30.down t0
      have h0 : [v0, v1, v2, v3] = [.int .i64 a0.X0, .int .i64 a0.Y0, .int .i64 a0.X1, .int .i64 a0.Y1] := h0
      simp only [List.cons.injEq, and_true] at h0
      obtain ⟨rfl, rfl, rfl, rfl⟩ := h0
      obtain ⟨n1, y1, t1⟩ := trod_field (i := 1) (T := 3) (off := 4) (sz := 1) (by kernel_rfl) h
      obtain ⟨a1, h1⟩ := op3.down t1
      have h1 : [v4] = [.int .i64 a1] := h1
      simp only [List.cons.injEq, and_true] at h1
      obtain rfl := h1
      exact ⟨(⟨a0, a1⟩ : S_Shade), rfl⟩
theorem op68 : Opn Try.prog 68 k_Frag where
  sz := by kernel_rfl
  down := fun {H enc w fuel cs x} h => by
    have hlen := trod_len (n := 6) (by kernel_rfl) (by kernel_rfl) h
    match cs, hlen, h with
    | [v0, v1, v2, v3, v4, v5], _, h =>
      obtain ⟨n0, y0, t0⟩ := trod_field (i := 0) (T := 3) (off := 0) (sz := 1) (by kernel_rfl) h
      obtain ⟨a0, h0⟩ := op3.down t0
      have h0 : [v0] = [.int .i64 a0] := h0
      simp only [List.cons.injEq, and_true] at h0
      obtain rfl := h0
      obtain ⟨n1, y1, t1⟩ := trod_field (i := 1) (T := 3) (off := 1) (sz := 1) (by kernel_rfl) h
      obtain ⟨a1, h1⟩ := op3.down t1
      have h1 : [v1] = [.int .i64 a1] := h1
      simp only [List.cons.injEq, and_true] at h1
      obtain rfl := h1
      obtain ⟨n2, y2, t2⟩ := trod_field (i := 2) (T := 3) (off := 2) (sz := 1) (by kernel_rfl) h
      obtain ⟨a2, h2⟩ := op3.down t2
      have h2 : [v2] = [.int .i64 a2] := h2
      simp only [List.cons.injEq, and_true] at h2
      obtain rfl := h2
      obtain ⟨n3, y3, t3⟩ := trod_field (i := 3) (T := 3) (off := 3) (sz := 1) (by kernel_rfl) h
      obtain ⟨a3, h3⟩ := op3.down t3
      have h3 : [v3] = [.int .i64 a3] := h3
      simp only [List.cons.injEq, and_true] at h3
      obtain rfl := h3
      obtain ⟨n4, y4, t4⟩ := trod_field (i := 4) (T := 3) (off := 4) (sz := 1) (by kernel_rfl) h
      obtain ⟨a4, h4⟩ := op3.down t4
      have h4 : [v4] = [.int .i64 a4] := h4
      simp only [List.cons.injEq, and_true] at h4
      obtain rfl := h4
      obtain ⟨n5, y5, t5⟩ := trod_field (i := 5) (T := 3) (off := 5) (sz := 1) (by kernel_rfl) h
      obtain ⟨a5, h5⟩ := op3.down t5
      have h5 : [v5] = [.int .i64 a5] := h5
      simp only [List.cons.injEq, and_true] at h5
      obtain rfl := h5
      exact ⟨(⟨a0, a1, a2, a3, a4, a5⟩ : S_Frag), rfl⟩
theorem own : ownKnob Try.prog.godebug = none := by kernel_rfl
theorem laidOut : laidOutB Try.prog = true := by kernel_rfl
theorem said (a0 : S_Frame) (a1 : S_Shade) (a2 : Int) (a3 : Int) (a4 : S_Frag) (a5 : (Ar4 Int)) (a6 : Int) (a7 : Int) (a8 : S_Frag) : m7 10000 a0 a1 a2 a3 a4 a5 a6 a7 a8 = some true := (m7_true (by decide) (by kernel_rfl) a0 a1 a2 a3 a4 a5 a6 a7 a8)
theorem readable : ∀ t ∈ Try.f7.params.toList, Try.prog.readableRec t = true ∧ t < Try.prog.types.size := by
  rw [Try.params7]
  intro t ht
  simp only [List.mem_cons, List.not_mem_nil, or_false] at ht
  rcases ht with rfl | rfl | rfl | rfl | rfl | rfl | rfl | rfl | rfl <;> exact ⟨by kernel_rfl, of_decide_eq_true (by kernel_rfl)⟩
set_option maxRecDepth 100000 in
theorem lifted (os : Os) (started : os.Started) (H : Type) (enc : TypeId × Value → H) :
    ReturnsInHanded {} Try.checked os 7 .any (Rows.pyramidHidesSpec.pre6 enc Try.prog Try.f7 Rows.pyramidHidesRow.domain false) (Rows.pyramidHidesSpec.post enc Try.prog Try.f7 false true false false) := by
  refine returnsInHanded_of_change (C := Try.checked) own started (by kernel_rfl) Try.func7
    (ChangeSpec.witness6 (enc := enc) (C := Try.checked) false ⟨#[], #[.agg #[.int .i64 0, .int .i64 0, .slice none 0 0, .slice none 0 0, .slice none 0 0, .slice none 0 0], .agg #[.int .i64 0, .int .i64 0, .int .i64 0, .int .i64 0, .int .i64 0], .int .i64 0, .int .i64 0, .agg #[.int .i64 0, .int .i64 0, .int .i64 0, .int .i64 0, .int .i64 0, .int .i64 0], .agg #[.int .u8 0, .int .u8 0, .int .u8 0, .int .u8 0], .int .i64 0, .int .i64 0, .agg #[.int .i64 0, .int .i64 0, .int .i64 0, .int .i64 0, .int .i64 0, .int .i64 0]], []⟩ 8 (by kernel_rfl) (by kernel_rfl) (by kernel_rfl) (by kernel_rfl)) ?_
  intro W base args ds gs before hval0 hW hcnd _
  have hW' := hW
  obtain ⟨p, q, hA0, hV, rfl, hfz, hnd⟩ := hW
  have hA : DataW.TrodAll enc Try.prog W 0 (fun _ => true) true Try.f7.params.toList args.toList ds p := hA0
  have hlt : ∀ x ∈ p, x.block < W.heap.size := fun x hx => hW'.lt x (List.mem_append.2 (.inl hx))
  rw [Try.params7] at hA
  obtain ⟨v0, vs0, d0, ds0, p0, q0, e0, rfl, rfl, h0, hA⟩ := trodAll_cons hA
  obtain ⟨v1, vs1, d1, ds1, p1, q1, e1, rfl, rfl, h1, hA⟩ := trodAll_cons hA
  obtain ⟨v2, vs2, d2, ds2, p2, q2, e2, rfl, rfl, h2, hA⟩ := trodAll_cons hA
  obtain ⟨v3, vs3, d3, ds3, p3, q3, e3, rfl, rfl, h3, hA⟩ := trodAll_cons hA
  obtain ⟨v4, vs4, d4, ds4, p4, q4, e4, rfl, rfl, h4, hA⟩ := trodAll_cons hA
  obtain ⟨v5, vs5, d5, ds5, p5, q5, e5, rfl, rfl, h5, hA⟩ := trodAll_cons hA
  obtain ⟨v6, vs6, d6, ds6, p6, q6, e6, rfl, rfl, h6, hA⟩ := trodAll_cons hA
  obtain ⟨v7, vs7, d7, ds7, p7, q7, e7, rfl, rfl, h7, hA⟩ := trodAll_cons hA
  obtain ⟨v8, vs8, d8, ds8, p8, q8, e8, rfl, rfl, h8, hA⟩ := trodAll_cons hA
  obtain ⟨rfl, rfl, rfl⟩ := trodAll_nil hA
  subst e8
  subst e7
  subst e6
  subst e5
  subst e4
  subst e3
  subst e2
  subst e1
  obtain rfl : args = #[v0, v1, v2, v3, v4, v5, v6, v7, v8] := by cases args; simp_all
  obtain ⟨cs0, a0, rfl, k0⟩ := arg_agg op25 (by kernel_rfl) (hval0 0 25 v0 rfl rfl) h0
  obtain ⟨A0_0, c0_0, A0_1, c0_1, A0_2, c0_2, A0_3, c0_3, k0, hR0_0, hR0_1, hR0_2, hR0_3⟩ := k0
  have k0 : cs0 = [.int .i64 a0.W, .int .i64 a0.H, .slice A0_0 a0.Color.length c0_0, .slice A0_1 a0.Depth.length c0_1, .slice A0_2 a0.Item.length c0_2, .slice A0_3 a0.Tri.length c0_3] := k0
  subst k0
  obtain ⟨cs1, a1, rfl, k1⟩ := arg_agg op32 (by kernel_rfl) (hval0 1 32 v1 rfl rfl) h1
  have k1 : cs1 = [.int .i64 a1.Rect.X0, .int .i64 a1.Rect.Y0, .int .i64 a1.Rect.X1, .int .i64 a1.Rect.Y1, .int .i64 a1.D] := k1
  subst k1
  obtain ⟨a2, rfl, wf2⟩ := arg_int (k := .i64) Try.underlying3 (hval0 2 3 v2 rfl rfl) h2
  obtain ⟨a3, rfl, wf3⟩ := arg_int (k := .i64) Try.underlying3 (hval0 3 3 v3 rfl rfl) h3
  obtain ⟨cs4, a4, rfl, k4⟩ := arg_agg op68 (by kernel_rfl) (hval0 4 68 v4 rfl rfl) h4
  have k4 : cs4 = [.int .i64 a4.D, .int .i64 a4.Item, .int .i64 a4.Tri, .int .i64 a4.Part, .int .i64 a4.U, .int .i64 a4.V] := k4
  subst k4
  obtain ⟨cs5, a5, rfl, k5⟩ := arg_agg op61 (by kernel_rfl) (hval0 5 61 v5 rfl rfl) h5
  have k5 : cs5 = [.int .u8 a5.a0, .int .u8 a5.a1, .int .u8 a5.a2, .int .u8 a5.a3] := k5
  subst k5
  obtain ⟨a6, rfl, wf6⟩ := arg_int (k := .i64) Try.underlying3 (hval0 6 3 v6 rfl rfl) h6
  obtain ⟨a7, rfl, wf7⟩ := arg_int (k := .i64) Try.underlying3 (hval0 7 3 v7 rfl rfl) h7
  obtain ⟨cs8, a8, rfl, k8⟩ := arg_agg op68 (by kernel_rfl) (hval0 8 68 v8 rfl rfl) h8
  have k8 : cs8 = [.int .i64 a8.D, .int .i64 a8.Item, .int .i64 a8.Tri, .int .i64 a8.Part, .int .i64 a8.U, .int .i64 a8.V] := k8
  subst k8
  obtain ⟨rfl, rfl⟩ := trodVars_none hV
  simp only [List.append_nil] at hW' hlt
  refine (c7 (fun _ => True) 10000 W a0 A0_0 c0_0 A0_1 c0_1 A0_2 c0_2 A0_3 c0_3 a1 a2 a3 a4 a5 a6 a7 a8 hR0_0 hR0_1 hR0_2 hR0_3 true (said a0 a1 a2 a3 a4 a5 a6 a7 a8)).mono fun e W' ⟨he, hg⟩ => ?_
  subst he
  exact ⟨_, rfl, post_below (pv := []) hW' (fun _ _ _ => (trodAll_cons_mk (shut_bool Try.underlying4 _) trodAll_mk0)) (fun sp hsp => trodAll_stays laidOut hg.base readable hA0 (by simpa using hlt) (fun x hx => hsp x (by simpa using hx))) (fun _ _ => rfl) (by simp) hg.base
    (ok_one (by kernel_rfl) rfl (okWide_bool_mk Try.underlying4 _))⟩
theorem over : Rows.pyramidHidesRow.holds Try.pinned (OpenSpec.ofChange Rows.pyramidHidesSpec) :=
  OpenClaim.holds_of_wide 7 Try.f7 rfl rfl rfl rfl rfl rfl rfl ⟨rfl, rfl, rfl, rfl, rfl⟩ rfl rfl rfl rfl rfl (by kernel_rfl) Try.func7 (by kernel_rfl)
    (of_decide_eq_true (by kernel_rfl)) (by unfold Func.isWrapper; first | (rw [if_pos (by decide +kernel)]; kernel_rfl) | (rw [if_neg (by decide +kernel)]; exact ⟨rfl, rfl⟩))
    (fun os started H enc _ => lifted os started H enc)
end Go.Proofs.Ytobkigllalbkiaa.PyramidHidesLaw
namespace Go.Proofs.Ytobkigllalbkiaa
/-- The statement. -/
theorem pyramidHides_proved : Rows.PyramidHidesSaid := PyramidHidesLaw.over
#print axioms pyramidHides_proved
end Go.Proofs.Ytobkigllalbkiaa
