/- Part 6 of the texts that the proof of PyramidTells stands on. -/
import Derived.Test.YtobkigllalbkiaaPyramidTellsZE
/- A plain Lean function that answers as the Go function does (none: not told), and the proof that a call answers so. Written by program. -/
set_option linter.unusedVariables false
namespace Go.Proofs.YtobkigllalbkiaaV.M
open Go.RowKit Go.Proofs.YtobkigllalbkiaaV
def m3_l2b (K : Nat) (v138 : S_Pyramid × Int) (y21_1 : Int) (rec1 : Int → Option (Bool)) (rec2 : Int → Option (Bool)) (y22_2 : Int) : Option (Bool) :=
 (idx (v138.1.Levels.map fun x => units x.Low) y21_1 fun el199 => (bif (decide (y22_2 < (el199.length : Int))) then (idx (v138.1.Levels.map fun x => units x.Low) y21_1 fun el217 => (idx el217 y22_2 fun el235 => (ck (y22_2 + 1) fun x249 => (rec2 x249)))) else (ck (y21_1 + 1) fun x250 => (rec1 x250))))
def m3_l2 (K : Nat) (v138 : S_Pyramid × Int) (y21_1 : Int) (rec1 : Int → Option (Bool)) : Nat → Int → Option (Bool)
 | 0 => fun _ => none
 | k + 1 => m3_l2b K v138 y21_1 rec1 (m3_l2 K v138 y21_1 rec1 k)
def m3_l1b (K : Nat) (a0 : S_Frame) (a1 : S_Pyramid) (v37 : S_Frame) (v52 : S_Pyramid) (v138 : S_Pyramid × Int) (rec1 : Int → Option (Bool)) (y21_1 : Int) : Option (Bool) :=
 (bif (decide (y21_1 < ((v138.1.Levels.map fun x => units x.Low).length : Int))) then m3_l2 K v138 y21_1 rec1 K 0 else ((m24 K v37 a0).bind fun v252 => ((bif v252 then ((m21 K v52 a1).bind fun v256 => some v256) else some false).bind fun b254 => some b254)))
def m3_l1 (K : Nat) (a0 : S_Frame) (a1 : S_Pyramid) (v37 : S_Frame) (v52 : S_Pyramid) (v138 : S_Pyramid × Int) : Nat → Int → Option (Bool)
 | 0 => fun _ => none
 | k + 1 => m3_l1b K a0 a1 v37 v52 v138 (m3_l1 K a0 a1 v37 v52 v138 k)
/-- diorama/dioramalaw27.PyramidTells -/
def m3 (K : Nat) (a0 : S_Frame) (a1 : S_Pyramid) (a2 : S_Shade) : Option (Bool) :=
 ((m11 K a0).bind fun v28 => ((bif v28 then some true else ((m12 K a1).bind fun v32 => some v32)).bind fun b30 => (bif b30 then some true else ((m13 K a0).bind fun v37 => ((m14 K a1).bind fun v52 => ((m15 K v37).bind fun v138 => ((m16 K a0).bind fun v147 => ((m17 K v52 a2.Rect).bind fun v156 => ((m18 K a1 a2.Rect).bind fun v159 => ((m19 K v52 a2).bind fun v162 => ((m20 K a1 a2).bind fun v165 => ((m21 K v138.1 v147.1).bind fun v169 => ((bif (!v169) then some true else some (v138.2 != v147.2)).bind fun b171 => ((bif b171 then some true else some (v156.1 != v159.1)).bind fun b174 => ((bif b174 then some true else some (v156.2 != v159.2)).bind fun b177 => ((bif b177 then some true else some (!(v162.1 == v165.1))).bind fun b180 => ((bif b180 then some true else some (v162.2 != v165.2)).bind fun b183 => ((bif b183 then some true else ((m22 K v52).bind fun v188 => ((m23 K a1).bind fun v191 => some (v188 != v191)))).bind fun b186 => (bif b186 then some false else m3_l1 K a0 a1 v37 v52 v138 K 0)))))))))))))))))))
set_option maxRecDepth 100000 in
set_option maxHeartbeats 4000000 in
theorem c3 (ok : Okp) (K : Nat) (w : World) (a0 : S_Frame) (A1 : Option Addr) (cp2 : Nat) (A5 : Option Addr) (cp6 : Nat) (A9 : Option Addr) (cp10 : Nat) (A13 : Option Addr) (cp14 : Nat) (a1 : S_Pyramid) (A17 : Option Addr) (cp18 : Nat) (a2 : S_Shade) (hR3 : Rd k_Ar4_Int w ok A1 cp2 a0.Color) (hR7 : Rd kInt w ok A5 cp6 a0.Depth) (hR11 : Rd kInt w ok A9 cp10 a0.Item) (hR15 : Rd kInt w ok A13 cp14 a0.Tri) (hR19 : Rd k_Level w ok A17 cp18 a1.Levels) (res : Bool) (hm : m3 K a0 a1 a2 = some res) :
  Calls Try.prog 3 #[.agg #[.int .i64 a0.W, .int .i64 a0.H, .slice A1 a0.Color.length cp2, .slice A5 a0.Depth.length cp6, .slice A9 a0.Item.length cp10, .slice A13 a0.Tri.length cp14], .agg #[.slice A17 a1.Levels.length cp18], .agg #[.int .i64 a2.Rect.X0, .int .i64 a2.Rect.Y0, .int .i64 a2.Rect.X1, .int .i64 a2.Rect.Y1, .int .i64 a2.D]] w (fun e w' => e = .returned (tup [.bool res]) ∧ Sep ok w w' [] []) := by
 refine calls_W (args := [.agg #[.int .i64 a0.W, .int .i64 a0.H, .slice A1 a0.Color.length cp2, .slice A5 a0.Depth.length cp6, .slice A9 a0.Item.length cp10, .slice A13 a0.Tri.length cp14], .agg #[.slice A17 a1.Levels.length cp18], .agg #[.int .i64 a2.Rect.X0, .int .i64 a2.Rect.Y0, .int .i64 a2.Rect.X1, .int .i64 a2.Rect.Y1, .int .i64 a2.D]]) Try.func3 rfl Try.ntmps3 Try.results3 rfl fun r hr => ?_
 obtain ⟨r1, rfl⟩ := regen (r := r) [(0, .agg #[.int .i64 a0.W, .int .i64 a0.H, .slice A1 a0.Color.length cp2, .slice A5 a0.Depth.length cp6, .slice A9 a0.Item.length cp10, .slice A13 a0.Tri.length cp14]), (1, .agg #[.slice A17 a1.Levels.length cp18]), (2, .agg #[.int .i64 a2.Rect.X0, .int .i64 a2.Rect.Y0, .int .i64 a2.Rect.X1, .int .i64 a2.Rect.Y1, .int .i64 a2.D])] ⟨hr 0 _ rfl, hr 1 _ rfl, hr 2 _ rfl, trivial⟩
 have H : Sep ok w w [] [RE.rd k_Ar4_Int A1 cp2 a0.Color, RE.rd kInt A5 cp6 a0.Depth, RE.rd kInt A9 cp10 a0.Item, RE.rd kInt A13 cp14 a0.Tri, RE.rd k_Level A17 cp18 a1.Levels] := Sep.arg (Sep.arg (Sep.arg (Sep.arg (Sep.arg (Sep.start ok w) (re := RE.rd k_Ar4_Int A1 cp2 a0.Color) rfl rfl hR3) (re := RE.rd kInt A5 cp6 a0.Depth) rfl rfl hR7) (re := RE.rd kInt A9 cp10 a0.Item) rfl rfl hR11) (re := RE.rd kInt A13 cp14 a0.Tri) rfl rfl hR15) (re := RE.rd k_Level A17 cp18 a1.Levels) rfl rfl hR19
 unfold m3 at hm
 refine W_seq ?_
 refine W_region ?_
 refine RL_cons (O_box (by exact wn0 rfl) (by rfl) (by rfl) (by rfl) H (fun w22 b21 (H : Sep ok w w22 [.blk b21 25 [.int .i64 a0.W, .int .i64 a0.H, .slice A1 a0.Color.length cp2, .slice A5 a0.Depth.length cp6, .slice A9 a0.Item.length cp10, .slice A13 a0.Tri.length cp14]] [RE.rd k_Ar4_Int A1 cp2 a0.Color, RE.rd kInt A5 cp6 a0.Depth, RE.rd kInt A9 cp10 a0.Item, RE.rd kInt A13 cp14 a0.Tri, RE.rd k_Level A17 cp18 a1.Levels]) => ?_))
 refine RL_cons (O_box (by exact wn0 rfl) (by rfl) (by rfl) (by rfl) H (fun w24 b23 (H : Sep ok w w24 [.blk b21 25 [.int .i64 a0.W, .int .i64 a0.H, .slice A1 a0.Color.length cp2, .slice A5 a0.Depth.length cp6, .slice A9 a0.Item.length cp10, .slice A13 a0.Tri.length cp14], .blk b23 28 [.slice A17 a1.Levels.length cp18]] [RE.rd k_Ar4_Int A1 cp2 a0.Color, RE.rd kInt A5 cp6 a0.Depth, RE.rd kInt A9 cp10 a0.Item, RE.rd kInt A13 cp14 a0.Tri, RE.rd k_Level A17 cp18 a1.Levels]) => ?_))
 refine RL_cons (O_box (by exact wn0 rfl) (by rfl) (by rfl) (by rfl) H (fun w26 b25 (H : Sep ok w w26 [.blk b21 25 [.int .i64 a0.W, .int .i64 a0.H, .slice A1 a0.Color.length cp2, .slice A5 a0.Depth.length cp6, .slice A9 a0.Item.length cp10, .slice A13 a0.Tri.length cp14], .blk b23 28 [.slice A17 a1.Levels.length cp18], .blk b25 32 [.int .i64 a2.Rect.X0, .int .i64 a2.Rect.Y0, .int .i64 a2.Rect.X1, .int .i64 a2.Rect.Y1, .int .i64 a2.D]] [RE.rd k_Ar4_Int A1 cp2 a0.Color, RE.rd kInt A5 cp6 a0.Depth, RE.rd kInt A9 cp10 a0.Item, RE.rd kInt A13 cp14 a0.Tri, RE.rd k_Level A17 cp18 a1.Levels]) => ?_))
 refine RL_pure (by exact wn0 rfl) (by rfl) (by rfl) (x_assign (v := .bool false) (by rfl)) ?_
 refine RL_nil ?_
 refine W_seq ?_
 refine W_seq ?_
 refine W_region ?_
 refine RL_pure (by exact wn0 rfl) (by rfl) (by rfl) (x_loadA (j := 0) (vs := [.int .i64 a0.W, .int .i64 a0.H, .slice A1 a0.Color.length cp2, .slice A5 a0.Depth.length cp6, .slice A9 a0.Item.length cp10, .slice A13 a0.Tri.length cp14]) ag25 (by rfl) (H.cells (i := 0) (by rfl)) (by rfl) (by rfl)) ?_
 obtain ⟨v28, hv27, hm⟩ := bind_some hm
 refine RL_cons (O_call (by exact wn0 rfl) (by rfl) (by rfl) (x_callL (by rfl) (args := [.agg #[.int .i64 a0.W, .int .i64 a0.H, .slice A1 a0.Color.length cp2, .slice A5 a0.Depth.length cp6, .slice A9 a0.Item.length cp10, .slice A13 a0.Tri.length cp14]]) (by rfl) (cf11 _ _)) (c11 okT K w26 a0 A1 cp2 A5 cp6 A9 cp10 A13 cp14 (H.rd (i := 0) (by rfl)).any (H.rd (i := 1) (by rfl)).any (H.rd (i := 2) (by rfl)).any (H.rd (i := 3) (by rfl)).any v28 hv27) ?_)
 rintro e w29 ⟨rfl, H2⟩
 have H : Sep ok w w29 [.blk b21 25 [.int .i64 a0.W, .int .i64 a0.H, .slice A1 a0.Color.length cp2, .slice A5 a0.Depth.length cp6, .slice A9 a0.Item.length cp10, .slice A13 a0.Tri.length cp14], .blk b23 28 [.slice A17 a1.Levels.length cp18], .blk b25 32 [.int .i64 a2.Rect.X0, .int .i64 a2.Rect.Y0, .int .i64 a2.Rect.X1, .int .i64 a2.Rect.Y1, .int .i64 a2.D]] [RE.rd k_Ar4_Int A1 cp2 a0.Color, RE.rd kInt A5 cp6 a0.Depth, RE.rd kInt A9 cp10 a0.Item, RE.rd kInt A13 cp14 a0.Tri, RE.rd k_Level A17 cp18 a1.Levels] := H.below H2.base
 clear H2
 refine ⟨_, rfl, ?_⟩
 show RL _ _ _ _ _ _ _
 refine RL_pure (by exact wn0 rfl) (by rfl) (by rfl) (x_move (v := .bool v28) (by rfl)) ?_
 obtain ⟨b30, hmS, hm⟩ := bind_some hm
 refine RL_cut 3 (fun r' w' => Agr [(28, .bool b30), (3, .pointer (some ⟨b21, 0, none⟩)), (4, .pointer (some ⟨b23, 0, none⟩)), (5, .pointer (some ⟨b25, 0, none⟩))] r' ∧ Sep ok w w' [.blk b21 25 [.int .i64 a0.W, .int .i64 a0.H, .slice A1 a0.Color.length cp2, .slice A5 a0.Depth.length cp6, .slice A9 a0.Item.length cp10, .slice A13 a0.Tri.length cp14], .blk b23 28 [.slice A17 a1.Levels.length cp18], .blk b25 32 [.int .i64 a2.Rect.X0, .int .i64 a2.Rect.Y0, .int .i64 a2.Rect.X1, .int .i64 a2.Rect.Y1, .int .i64 a2.D]] [RE.rd k_Ar4_Int A1 cp2 a0.Color, RE.rd kInt A5 cp6 a0.Depth, RE.rd kInt A9 cp10 a0.Item, RE.rd kInt A13 cp14 a0.Tri, RE.rd k_Level A17 cp18 a1.Levels]) ?_ ?_
 ·cases hbS : v28
  ·have hm := cond_f hbS hmS
   refine RL_pure (by exact wn1 rfl rfl rfl rfl) (by rfl) (by rfl) (x_loadA (j := 0) (vs := [.slice A17 a1.Levels.length cp18]) ag28 (by rfl) (H.cells (i := 1) (by rfl)) (by rfl) (by rfl)) ?_
   obtain ⟨v32, hv31, hm⟩ := bind_some hm
   refine RL_cons (O_call (by exact wn1 rfl rfl rfl rfl) (by rfl) (by rfl) (x_callL (by rfl) (args := [.agg #[.slice A17 a1.Levels.length cp18]]) (by rfl) (cf12 _ _)) (c12 okT K w29 a1 A17 cp18 (H.rd (i := 4) (by rfl)).any v32 hv31) ?_)
   rintro e w33 ⟨rfl, H2⟩
   have H : Sep ok w w33 [.blk b21 25 [.int .i64 a0.W, .int .i64 a0.H, .slice A1 a0.Color.length cp2, .slice A5 a0.Depth.length cp6, .slice A9 a0.Item.length cp10, .slice A13 a0.Tri.length cp14], .blk b23 28 [.slice A17 a1.Levels.length cp18], .blk b25 32 [.int .i64 a2.Rect.X0, .int .i64 a2.Rect.Y0, .int .i64 a2.Rect.X1, .int .i64 a2.Rect.Y1, .int .i64 a2.D]] [RE.rd k_Ar4_Int A1 cp2 a0.Color, RE.rd kInt A5 cp6 a0.Depth, RE.rd kInt A9 cp10 a0.Item, RE.rd kInt A13 cp14 a0.Tri, RE.rd k_Level A17 cp18 a1.Levels] := H.below H2.base
   clear H2
   refine ⟨_, rfl, ?_⟩
   show RL _ _ _ _ _ _ _
   refine RL_pure (by exact wn0 rfl) (by rfl) (by rfl) (x_pick_f (v := .bool v32) (by rfl) (by rfl)) ?_
   refine RL_nil ?_
   exact ⟨⟨congrArg Value.bool (Option.some.inj hm), rfl, rfl, rfl, trivial⟩, H⟩
  ·have hm := cond_t hbS hmS
   refine RL_cons (OpR_off (by exact wn2 rfl rfl rfl rfl) (by rfl) (by rfl) ?_)
   refine RL_cons (OpR_off (by exact wn2 rfl rfl rfl rfl) (by rfl) (by rfl) ?_)
   refine RL_pure (by exact wn0 rfl) (by rfl) (by rfl) (x_pick_t (v := .bool true) (by rfl) (by rfl)) ?_
   refine RL_nil ?_
   exact ⟨⟨congrArg Value.bool (Option.some.inj hm), rfl, rfl, rfl, trivial⟩, H⟩
 ·rintro r' w' ⟨hA, H⟩
  obtain ⟨r34, rfl⟩ := regen _ hA; clear hA
  obtain ⟨w35, rfl⟩ : ∃ W : World, W = w' := ⟨_, rfl⟩
  show RL _ _ _ _ _ _ _
  refine RL_nil ?_
  refine W_cond (by rfl) (fun hb => ?_) (fun hb => ?_)
  ·have hm := cond_t hb hm
   refine W_seq ?_
   refine W_region ?_
   refine RL_pure (by exact wn0 rfl) (by rfl) (by rfl) (x_assign (v := .bool true) (by rfl)) ?_
   refine RL_nil ?_
   refine W_ret ?_
   obtain rfl := Option.some.inj hm
   exact ⟨[.bool true], (.tmp (by rfl) rfl), rfl, H.none_⟩
  ·have hm := cond_f hb hm
   refine W_skip ?_
   refine W_seq ?_
   obtain ⟨v37, hv36, hm⟩ := bind_some hm
   obtain ⟨v52, hv51, hm⟩ := bind_some hm
   refine W_drawT (.take 0 (.take 2 (.all (.br 1 (.all (.br 3 (.all (.br 4 (.all (.br 5 (.all (.br 6 (.lin [.tail 7]) (.stop))) (.stop))) (.br 5 (.all (.br 4 (.all (.br 6 (.lin [.tail 7]) (.stop))) (.stop))) (.stop)))) (.br 4 (.all (.br 3 (.all (.br 5 (.all (.br 6 (.lin [.tail 7]) (.stop))) (.stop))) (.br 5 (.all (.br 3 (.all (.br 6 (.lin [.tail 7]) (.stop))) (.stop))) (.stop)))) (.br 5 (.all (.br 3 (.all (.br 4 (.all (.br 6 (.lin [.tail 7]) (.stop))) (.stop))) (.br 4 (.all (.br 3 (.all (.br 6 (.lin [.tail 7]) (.stop))) (.stop))) (.stop)))) (.stop))))) (.br 4 (.all (.br 1 (.all (.br 3 (.all (.br 5 (.all (.br 6 (.lin [.tail 7]) (.stop))) (.stop))) (.br 5 (.all (.br 3 (.all (.br 6 (.lin [.tail 7]) (.stop))) (.stop))) (.stop)))) (.br 5 (.all (.br 1 (.all (.br 3 (.all (.br 6 (.lin [.tail 7]) (.stop))) (.stop))) (.stop))) (.stop)))) (.br 5 (.all (.br 1 (.all (.br 3 (.all (.br 4 (.all (.br 6 (.lin [.tail 7]) (.stop))) (.stop))) (.br 4 (.all (.br 3 (.all (.br 6 (.lin [.tail 7]) (.stop))) (.stop))) (.stop)))) (.br 4 (.all (.br 1 (.all (.br 3 (.all (.br 6 (.lin [.tail 7]) (.stop))) (.stop))) (.stop))) (.stop)))) (.stop))))))) (fun wS => Sep ok w wS [.blk b21 25 [.int .i64 a0.W, .int .i64 a0.H, .slice A1 a0.Color.length cp2, .slice A5 a0.Depth.length cp6, .slice A9 a0.Item.length cp10, .slice A13 a0.Tri.length cp14], .blk b23 28 [.slice A17 a1.Levels.length cp18], .blk b25 32 [.int .i64 a2.Rect.X0, .int .i64 a2.Rect.Y0, .int .i64 a2.Rect.X1, .int .i64 a2.Rect.Y1, .int .i64 a2.D]] [RE.rd k_Ar4_Int A1 cp2 a0.Color, RE.rd kInt A5 cp6 a0.Depth, RE.rd kInt A9 cp10 a0.Item, RE.rd kInt A13 cp14 a0.Tri, RE.rd k_Level A17 cp18 a1.Levels]) [7] [] mixed0 (by kernel_rfl) (by kernel_rfl) (by kernel_rfl) (by kernel_rfl) (by exact H.drew) ?_
   obtain ⟨w62, hW⟩ : ∃ W : World, W = { w35 with drawn := w35.drawn + 1 } := ⟨_, rfl⟩
   rw [← hW]
   have H : Sep ok w w62 [.blk b21 25 [.int .i64 a0.W, .int .i64 a0.H, .slice A1 a0.Color.length cp2, .slice A5 a0.Depth.length cp6, .slice A9 a0.Item.length cp10, .slice A13 a0.Tri.length cp14], .blk b23 28 [.slice A17 a1.Levels.length cp18], .blk b25 32 [.int .i64 a2.Rect.X0, .int .i64 a2.Rect.Y0, .int .i64 a2.Rect.X1, .int .i64 a2.Rect.Y1, .int .i64 a2.D]] [RE.rd k_Ar4_Int A1 cp2 a0.Color, RE.rd kInt A5 cp6 a0.Depth, RE.rd kInt A9 cp10 a0.Item, RE.rd kInt A13 cp14 a0.Tri, RE.rd k_Level A17 cp18 a1.Levels] := by rw [hW]; exact H.drew
   clear hW
   refine PRT_take (by rfl) (by rfl) (by rfl) (by exact wn0 rfl) (fun wS (H : Sep ok w wS [.blk b21 25 [.int .i64 a0.W, .int .i64 a0.H, .slice A1 a0.Color.length cp2, .slice A5 a0.Depth.length cp6, .slice A9 a0.Item.length cp10, .slice A13 a0.Tri.length cp14], .blk b23 28 [.slice A17 a1.Levels.length cp18], .blk b25 32 [.int .i64 a2.Rect.X0, .int .i64 a2.Rect.Y0, .int .i64 a2.Rect.X1, .int .i64 a2.Rect.Y1, .int .i64 a2.D]] [RE.rd k_Ar4_Int A1 cp2 a0.Color, RE.rd kInt A5 cp6 a0.Depth, RE.rd kInt A9 cp10 a0.Item, RE.rd kInt A13 cp14 a0.Tri, RE.rd k_Level A17 cp18 a1.Levels]) => (x_loadA (j := 0) (vs := [.int .i64 a0.W, .int .i64 a0.H, .slice A1 a0.Color.length cp2, .slice A5 a0.Depth.length cp6, .slice A9 a0.Item.length cp10, .slice A13 a0.Tri.length cp14]) ag25 (by rfl) (H.cells (i := 0) (by rfl)) (by rfl) (by rfl))) ?_
   refine PRT_take (by rfl) (by rfl) (by rfl) (by exact wn0 rfl) (fun wS (H : Sep ok w wS [.blk b21 25 [.int .i64 a0.W, .int .i64 a0.H, .slice A1 a0.Color.length cp2, .slice A5 a0.Depth.length cp6, .slice A9 a0.Item.length cp10, .slice A13 a0.Tri.length cp14], .blk b23 28 [.slice A17 a1.Levels.length cp18], .blk b25 32 [.int .i64 a2.Rect.X0, .int .i64 a2.Rect.Y0, .int .i64 a2.Rect.X1, .int .i64 a2.Rect.Y1, .int .i64 a2.D]] [RE.rd k_Ar4_Int A1 cp2 a0.Color, RE.rd kInt A5 cp6 a0.Depth, RE.rd kInt A9 cp10 a0.Item, RE.rd kInt A13 cp14 a0.Tri, RE.rd k_Level A17 cp18 a1.Levels]) => (x_loadA (j := 0) (vs := [.slice A17 a1.Levels.length cp18]) ag28 (by rfl) (H.cells (i := 1) (by rfl)) (by rfl) (by rfl))) ?_
   refine PRT_meet (fun r' w' => ∃ (A39 : Option Addr), ∃ (cp40 : Nat), ∃ (A42 : Option Addr), ∃ (cp43 : Nat), ∃ (A45 : Option Addr), ∃ (cp46 : Nat), ∃ (A48 : Option Addr), ∃ (cp49 : Nat), ∃ (A54 : Option Addr), ∃ (cp55 : Nat), ∃ (b57 : Nat), ∃ (b59 : Nat), Agr [(3, .pointer (some ⟨b21, 0, none⟩)), (4, .pointer (some ⟨b23, 0, none⟩)), (5, .pointer (some ⟨b25, 0, none⟩)), (7, .pointer (some ⟨b57, 0, none⟩)), (8, .pointer (some ⟨b59, 0, none⟩)), (32, .agg #[.slice A54 v52.Levels.length cp55])] r' ∧ Sep ok w w' [.blk b21 25 [.int .i64 a0.W, .int .i64 a0.H, .slice A1 a0.Color.length cp2, .slice A5 a0.Depth.length cp6, .slice A9 a0.Item.length cp10, .slice A13 a0.Tri.length cp14], .blk b23 28 [.slice A17 a1.Levels.length cp18], .blk b25 32 [.int .i64 a2.Rect.X0, .int .i64 a2.Rect.Y0, .int .i64 a2.Rect.X1, .int .i64 a2.Rect.Y1, .int .i64 a2.D], .blk b57 25 [.int .i64 v37.W, .int .i64 v37.H, .slice A39 v37.Color.length cp40, .slice A42 v37.Depth.length cp43, .slice A45 v37.Item.length cp46, .slice A48 v37.Tri.length cp49], .blk b59 28 [.slice none 0 0]] [RE.rd k_Ar4_Int A1 cp2 a0.Color, RE.rd kInt A5 cp6 a0.Depth, RE.rd kInt A9 cp10 a0.Item, RE.rd kInt A13 cp14 a0.Tri, RE.rd k_Level A17 cp18 a1.Levels, RE.rd k_Ar4_Int A39 cp40 v37.Color, RE.rd kInt A42 cp43 v37.Depth, RE.rd kInt A45 cp46 v37.Item, RE.rd kInt A48 cp49 v37.Tri, RE.rd k_Level A54 cp55 v52.Levels]) (.lin [.tail 7]) ?_ ?_
   ·intro hJ1_3_4_5_6
    refine PRT_meet (fun r' w' => ∃ (A39 : Option Addr), ∃ (cp40 : Nat), ∃ (A42 : Option Addr), ∃ (cp43 : Nat), ∃ (A45 : Option Addr), ∃ (cp46 : Nat), ∃ (A48 : Option Addr), ∃ (cp49 : Nat), ∃ (A54 : Option Addr), ∃ (cp55 : Nat), ∃ (b57 : Nat), ∃ (b59 : Nat), Agr [(3, .pointer (some ⟨b21, 0, none⟩)), (4, .pointer (some ⟨b23, 0, none⟩)), (5, .pointer (some ⟨b25, 0, none⟩)), (7, .pointer (some ⟨b57, 0, none⟩)), (8, .pointer (some ⟨b59, 0, none⟩)), (30, .agg #[.int .i64 v37.W, .int .i64 v37.H, .slice A39 v37.Color.length cp40, .slice A42 v37.Depth.length cp43, .slice A45 v37.Item.length cp46, .slice A48 v37.Tri.length cp49]), (32, .agg #[.slice A54 v52.Levels.length cp55])] r' ∧ Sep ok w w' [.blk b21 25 [.int .i64 a0.W, .int .i64 a0.H, .slice A1 a0.Color.length cp2, .slice A5 a0.Depth.length cp6, .slice A9 a0.Item.length cp10, .slice A13 a0.Tri.length cp14], .blk b23 28 [.slice A17 a1.Levels.length cp18], .blk b25 32 [.int .i64 a2.Rect.X0, .int .i64 a2.Rect.Y0, .int .i64 a2.Rect.X1, .int .i64 a2.Rect.Y1, .int .i64 a2.D], .blk b57 25 [.int .i64 0, .int .i64 0, .slice none 0 0, .slice none 0 0, .slice none 0 0, .slice none 0 0], .blk b59 28 [.slice none 0 0]] [RE.rd k_Ar4_Int A1 cp2 a0.Color, RE.rd kInt A5 cp6 a0.Depth, RE.rd kInt A9 cp10 a0.Item, RE.rd kInt A13 cp14 a0.Tri, RE.rd k_Level A17 cp18 a1.Levels, RE.rd k_Ar4_Int A39 cp40 v37.Color, RE.rd kInt A42 cp43 v37.Depth, RE.rd kInt A45 cp46 v37.Item, RE.rd kInt A48 cp49 v37.Tri, RE.rd k_Level A54 cp55 v52.Levels]) (.all (.br 6 (.lin [.tail 7]) (.stop))) ?_ ?_
    ·intro hJ1_3_4_5
     refine PRT_meet (fun r' w' => ∃ (A39 : Option Addr), ∃ (cp40 : Nat), ∃ (A42 : Option Addr), ∃ (cp43 : Nat), ∃ (A45 : Option Addr), ∃ (cp46 : Nat), ∃ (A48 : Option Addr), ∃ (cp49 : Nat), ∃ (A54 : Option Addr), ∃ (cp55 : Nat), ∃ (b57 : Nat), Agr [(3, .pointer (some ⟨b21, 0, none⟩)), (4, .pointer (some ⟨b23, 0, none⟩)), (5, .pointer (some ⟨b25, 0, none⟩)), (7, .pointer (some ⟨b57, 0, none⟩)), (30, .agg #[.int .i64 v37.W, .int .i64 v37.H, .slice A39 v37.Color.length cp40, .slice A42 v37.Depth.length cp43, .slice A45 v37.Item.length cp46, .slice A48 v37.Tri.length cp49]), (32, .agg #[.slice A54 v52.Levels.length cp55])] r' ∧ Sep ok w w' [.blk b21 25 [.int .i64 a0.W, .int .i64 a0.H, .slice A1 a0.Color.length cp2, .slice A5 a0.Depth.length cp6, .slice A9 a0.Item.length cp10, .slice A13 a0.Tri.length cp14], .blk b23 28 [.slice A17 a1.Levels.length cp18], .blk b25 32 [.int .i64 a2.Rect.X0, .int .i64 a2.Rect.Y0, .int .i64 a2.Rect.X1, .int .i64 a2.Rect.Y1, .int .i64 a2.D], .blk b57 25 [.int .i64 0, .int .i64 0, .slice none 0 0, .slice none 0 0, .slice none 0 0, .slice none 0 0], .hole] [RE.rd k_Ar4_Int A1 cp2 a0.Color, RE.rd kInt A5 cp6 a0.Depth, RE.rd kInt A9 cp10 a0.Item, RE.rd kInt A13 cp14 a0.Tri, RE.rd k_Level A17 cp18 a1.Levels, RE.rd k_Ar4_Int A39 cp40 v37.Color, RE.rd kInt A42 cp43 v37.Depth, RE.rd kInt A45 cp46 v37.Item, RE.rd kInt A48 cp49 v37.Tri, RE.rd k_Level A54 cp55 v52.Levels]) (.all (.br 5 (.all (.br 6 (.lin [.tail 7]) (.stop))) (.stop))) ?_ ?_
     ·intro hJ1_3_4
      refine PRT_meet (fun r' w' => ∃ (A39 : Option Addr), ∃ (cp40 : Nat), ∃ (A42 : Option Addr), ∃ (cp43 : Nat), ∃ (A45 : Option Addr), ∃ (cp46 : Nat), ∃ (A48 : Option Addr), ∃ (cp49 : Nat), ∃ (A54 : Option Addr), ∃ (cp55 : Nat), ∃ (b59 : Nat), Agr [(3, .pointer (some ⟨b21, 0, none⟩)), (4, .pointer (some ⟨b23, 0, none⟩)), (5, .pointer (some ⟨b25, 0, none⟩)), (8, .pointer (some ⟨b59, 0, none⟩)), (30, .agg #[.int .i64 v37.W, .int .i64 v37.H, .slice A39 v37.Color.length cp40, .slice A42 v37.Depth.length cp43, .slice A45 v37.Item.length cp46, .slice A48 v37.Tri.length cp49]), (32, .agg #[.slice A54 v52.Levels.length cp55])] r' ∧ Sep ok w w' [.blk b21 25 [.int .i64 a0.W, .int .i64 a0.H, .slice A1 a0.Color.length cp2, .slice A5 a0.Depth.length cp6, .slice A9 a0.Item.length cp10, .slice A13 a0.Tri.length cp14], .blk b23 28 [.slice A17 a1.Levels.length cp18], .blk b25 32 [.int .i64 a2.Rect.X0, .int .i64 a2.Rect.Y0, .int .i64 a2.Rect.X1, .int .i64 a2.Rect.Y1, .int .i64 a2.D], .hole, .blk b59 28 [.slice none 0 0]] [RE.rd k_Ar4_Int A1 cp2 a0.Color, RE.rd kInt A5 cp6 a0.Depth, RE.rd kInt A9 cp10 a0.Item, RE.rd kInt A13 cp14 a0.Tri, RE.rd k_Level A17 cp18 a1.Levels, RE.rd k_Ar4_Int A39 cp40 v37.Color, RE.rd kInt A42 cp43 v37.Depth, RE.rd kInt A45 cp46 v37.Item, RE.rd kInt A48 cp49 v37.Tri, RE.rd k_Level A54 cp55 v52.Levels]) (.all (.br 4 (.all (.br 6 (.lin [.tail 7]) (.stop))) (.stop))) ?_ ?_
      ·intro hJ1_3_5
       refine PRT_meet (fun r' w' => ∃ (A39 : Option Addr), ∃ (cp40 : Nat), ∃ (A42 : Option Addr), ∃ (cp43 : Nat), ∃ (A45 : Option Addr), ∃ (cp46 : Nat), ∃ (A48 : Option Addr), ∃ (cp49 : Nat), ∃ (b57 : Nat), ∃ (b59 : Nat), Agr [(3, .pointer (some ⟨b21, 0, none⟩)), (4, .pointer (some ⟨b23, 0, none⟩)), (5, .pointer (some ⟨b25, 0, none⟩)), (7, .pointer (some ⟨b57, 0, none⟩)), (8, .pointer (some ⟨b59, 0, none⟩)), (30, .agg #[.int .i64 v37.W, .int .i64 v37.H, .slice A39 v37.Color.length cp40, .slice A42 v37.Depth.length cp43, .slice A45 v37.Item.length cp46, .slice A48 v37.Tri.length cp49]), (31, .agg #[.slice A17 a1.Levels.length cp18])] r' ∧ Sep ok w w' [.blk b21 25 [.int .i64 a0.W, .int .i64 a0.H, .slice A1 a0.Color.length cp2, .slice A5 a0.Depth.length cp6, .slice A9 a0.Item.length cp10, .slice A13 a0.Tri.length cp14], .blk b23 28 [.slice A17 a1.Levels.length cp18], .blk b25 32 [.int .i64 a2.Rect.X0, .int .i64 a2.Rect.Y0, .int .i64 a2.Rect.X1, .int .i64 a2.Rect.Y1, .int .i64 a2.D], .blk b57 25 [.int .i64 0, .int .i64 0, .slice none 0 0, .slice none 0 0, .slice none 0 0, .slice none 0 0], .blk b59 28 [.slice none 0 0]] [RE.rd k_Ar4_Int A1 cp2 a0.Color, RE.rd kInt A5 cp6 a0.Depth, RE.rd kInt A9 cp10 a0.Item, RE.rd kInt A13 cp14 a0.Tri, RE.rd k_Level A17 cp18 a1.Levels, RE.rd k_Ar4_Int A39 cp40 v37.Color, RE.rd kInt A42 cp43 v37.Depth, RE.rd kInt A45 cp46 v37.Item, RE.rd kInt A48 cp49 v37.Tri, RE.hole]) (.all (.br 3 (.all (.br 6 (.lin [.tail 7]) (.stop))) (.stop))) ?_ ?_
       ·intro hJ1_4_5
        refine PRT_meet (fun r' w' => ∃ (A39 : Option Addr), ∃ (cp40 : Nat), ∃ (A42 : Option Addr), ∃ (cp43 : Nat), ∃ (A45 : Option Addr), ∃ (cp46 : Nat), ∃ (A48 : Option Addr), ∃ (cp49 : Nat), ∃ (A54 : Option Addr), ∃ (cp55 : Nat), Agr [(3, .pointer (some ⟨b21, 0, none⟩)), (4, .pointer (some ⟨b23, 0, none⟩)), (5, .pointer (some ⟨b25, 0, none⟩)), (30, .agg #[.int .i64 v37.W, .int .i64 v37.H, .slice A39 v37.Color.length cp40, .slice A42 v37.Depth.length cp43, .slice A45 v37.Item.length cp46, .slice A48 v37.Tri.length cp49]), (32, .agg #[.slice A54 v52.Levels.length cp55])] r' ∧ Sep ok w w' [.blk b21 25 [.int .i64 a0.W, .int .i64 a0.H, .slice A1 a0.Color.length cp2, .slice A5 a0.Depth.length cp6, .slice A9 a0.Item.length cp10, .slice A13 a0.Tri.length cp14], .blk b23 28 [.slice A17 a1.Levels.length cp18], .blk b25 32 [.int .i64 a2.Rect.X0, .int .i64 a2.Rect.Y0, .int .i64 a2.Rect.X1, .int .i64 a2.Rect.Y1, .int .i64 a2.D], .hole, .hole] [RE.rd k_Ar4_Int A1 cp2 a0.Color, RE.rd kInt A5 cp6 a0.Depth, RE.rd kInt A9 cp10 a0.Item, RE.rd kInt A13 cp14 a0.Tri, RE.rd k_Level A17 cp18 a1.Levels, RE.rd k_Ar4_Int A39 cp40 v37.Color, RE.rd kInt A42 cp43 v37.Depth, RE.rd kInt A45 cp46 v37.Item, RE.rd kInt A48 cp49 v37.Tri, RE.rd k_Level A54 cp55 v52.Levels]) (.all (.br 4 (.all (.br 5 (.all (.br 6 (.lin [.tail 7]) (.stop))) (.stop))) (.br 5 (.all (.br 4 (.all (.br 6 (.lin [.tail 7]) (.stop))) (.stop))) (.stop)))) ?_ ?_
        ·intro hJ1_3
         refine PRT_meet (fun r' w' => ∃ (A39 : Option Addr), ∃ (cp40 : Nat), ∃ (A42 : Option Addr), ∃ (cp43 : Nat), ∃ (A45 : Option Addr), ∃ (cp46 : Nat), ∃ (A48 : Option Addr), ∃ (cp49 : Nat), ∃ (b57 : Nat), Agr [(3, .pointer (some ⟨b21, 0, none⟩)), (4, .pointer (some ⟨b23, 0, none⟩)), (5, .pointer (some ⟨b25, 0, none⟩)), (7, .pointer (some ⟨b57, 0, none⟩)), (30, .agg #[.int .i64 v37.W, .int .i64 v37.H, .slice A39 v37.Color.length cp40, .slice A42 v37.Depth.length cp43, .slice A45 v37.Item.length cp46, .slice A48 v37.Tri.length cp49]), (31, .agg #[.slice A17 a1.Levels.length cp18])] r' ∧ Sep ok w w' [.blk b21 25 [.int .i64 a0.W, .int .i64 a0.H, .slice A1 a0.Color.length cp2, .slice A5 a0.Depth.length cp6, .slice A9 a0.Item.length cp10, .slice A13 a0.Tri.length cp14], .blk b23 28 [.slice A17 a1.Levels.length cp18], .blk b25 32 [.int .i64 a2.Rect.X0, .int .i64 a2.Rect.Y0, .int .i64 a2.Rect.X1, .int .i64 a2.Rect.Y1, .int .i64 a2.D], .blk b57 25 [.int .i64 0, .int .i64 0, .slice none 0 0, .slice none 0 0, .slice none 0 0, .slice none 0 0], .hole] [RE.rd k_Ar4_Int A1 cp2 a0.Color, RE.rd kInt A5 cp6 a0.Depth, RE.rd kInt A9 cp10 a0.Item, RE.rd kInt A13 cp14 a0.Tri, RE.rd k_Level A17 cp18 a1.Levels, RE.rd k_Ar4_Int A39 cp40 v37.Color, RE.rd kInt A42 cp43 v37.Depth, RE.rd kInt A45 cp46 v37.Item, RE.rd kInt A48 cp49 v37.Tri, RE.hole]) (.all (.br 3 (.all (.br 5 (.all (.br 6 (.lin [.tail 7]) (.stop))) (.stop))) (.br 5 (.all (.br 3 (.all (.br 6 (.lin [.tail 7]) (.stop))) (.stop))) (.stop)))) ?_ ?_
         ·intro hJ1_4
          refine PRT_meet (fun r' w' => ∃ (A39 : Option Addr), ∃ (cp40 : Nat), ∃ (A42 : Option Addr), ∃ (cp43 : Nat), ∃ (A45 : Option Addr), ∃ (cp46 : Nat), ∃ (A48 : Option Addr), ∃ (cp49 : Nat), ∃ (b59 : Nat), Agr [(3, .pointer (some ⟨b21, 0, none⟩)), (4, .pointer (some ⟨b23, 0, none⟩)), (5, .pointer (some ⟨b25, 0, none⟩)), (8, .pointer (some ⟨b59, 0, none⟩)), (30, .agg #[.int .i64 v37.W, .int .i64 v37.H, .slice A39 v37.Color.length cp40, .slice A42 v37.Depth.length cp43, .slice A45 v37.Item.length cp46, .slice A48 v37.Tri.length cp49]), (31, .agg #[.slice A17 a1.Levels.length cp18])] r' ∧ Sep ok w w' [.blk b21 25 [.int .i64 a0.W, .int .i64 a0.H, .slice A1 a0.Color.length cp2, .slice A5 a0.Depth.length cp6, .slice A9 a0.Item.length cp10, .slice A13 a0.Tri.length cp14], .blk b23 28 [.slice A17 a1.Levels.length cp18], .blk b25 32 [.int .i64 a2.Rect.X0, .int .i64 a2.Rect.Y0, .int .i64 a2.Rect.X1, .int .i64 a2.Rect.Y1, .int .i64 a2.D], .hole, .blk b59 28 [.slice none 0 0]] [RE.rd k_Ar4_Int A1 cp2 a0.Color, RE.rd kInt A5 cp6 a0.Depth, RE.rd kInt A9 cp10 a0.Item, RE.rd kInt A13 cp14 a0.Tri, RE.rd k_Level A17 cp18 a1.Levels, RE.rd k_Ar4_Int A39 cp40 v37.Color, RE.rd kInt A42 cp43 v37.Depth, RE.rd kInt A45 cp46 v37.Item, RE.rd kInt A48 cp49 v37.Tri, RE.hole]) (.all (.br 3 (.all (.br 4 (.all (.br 6 (.lin [.tail 7]) (.stop))) (.stop))) (.br 4 (.all (.br 3 (.all (.br 6 (.lin [.tail 7]) (.stop))) (.stop))) (.stop)))) ?_ ?_
          ·intro hJ1_5
           refine PRT_meet (fun r' w' => ∃ (b57 : Nat), ∃ (b59 : Nat), Agr [(3, .pointer (some ⟨b21, 0, none⟩)), (4, .pointer (some ⟨b23, 0, none⟩)), (5, .pointer (some ⟨b25, 0, none⟩)), (7, .pointer (some ⟨b57, 0, none⟩)), (8, .pointer (some ⟨b59, 0, none⟩)), (29, .agg #[.int .i64 a0.W, .int .i64 a0.H, .slice A1 a0.Color.length cp2, .slice A5 a0.Depth.length cp6, .slice A9 a0.Item.length cp10, .slice A13 a0.Tri.length cp14]), (31, .agg #[.slice A17 a1.Levels.length cp18])] r' ∧ Sep ok w w' [.blk b21 25 [.int .i64 a0.W, .int .i64 a0.H, .slice A1 a0.Color.length cp2, .slice A5 a0.Depth.length cp6, .slice A9 a0.Item.length cp10, .slice A13 a0.Tri.length cp14], .blk b23 28 [.slice A17 a1.Levels.length cp18], .blk b25 32 [.int .i64 a2.Rect.X0, .int .i64 a2.Rect.Y0, .int .i64 a2.Rect.X1, .int .i64 a2.Rect.Y1, .int .i64 a2.D], .blk b57 25 [.int .i64 0, .int .i64 0, .slice none 0 0, .slice none 0 0, .slice none 0 0, .slice none 0 0], .blk b59 28 [.slice none 0 0]] [RE.rd k_Ar4_Int A1 cp2 a0.Color, RE.rd kInt A5 cp6 a0.Depth, RE.rd kInt A9 cp10 a0.Item, RE.rd kInt A13 cp14 a0.Tri, RE.rd k_Level A17 cp18 a1.Levels, RE.hole, RE.hole, RE.hole, RE.hole, RE.hole]) (.all (.br 1 (.all (.br 3 (.all (.br 6 (.lin [.tail 7]) (.stop))) (.stop))) (.stop))) ?_ ?_
           ·intro hJ4_5
            refine PRT_meet (fun r' w' => ∃ (A39 : Option Addr), ∃ (cp40 : Nat), ∃ (A42 : Option Addr), ∃ (cp43 : Nat), ∃ (A45 : Option Addr), ∃ (cp46 : Nat), ∃ (A48 : Option Addr), ∃ (cp49 : Nat), Agr [(3, .pointer (some ⟨b21, 0, none⟩)), (4, .pointer (some ⟨b23, 0, none⟩)), (5, .pointer (some ⟨b25, 0, none⟩)), (30, .agg #[.int .i64 v37.W, .int .i64 v37.H, .slice A39 v37.Color.length cp40, .slice A42 v37.Depth.length cp43, .slice A45 v37.Item.length cp46, .slice A48 v37.Tri.length cp49]), (31, .agg #[.slice A17 a1.Levels.length cp18])] r' ∧ Sep ok w w' [.blk b21 25 [.int .i64 a0.W, .int .i64 a0.H, .slice A1 a0.Color.length cp2, .slice A5 a0.Depth.length cp6, .slice A9 a0.Item.length cp10, .slice A13 a0.Tri.length cp14], .blk b23 28 [.slice A17 a1.Levels.length cp18], .blk b25 32 [.int .i64 a2.Rect.X0, .int .i64 a2.Rect.Y0, .int .i64 a2.Rect.X1, .int .i64 a2.Rect.Y1, .int .i64 a2.D], .hole, .hole] [RE.rd k_Ar4_Int A1 cp2 a0.Color, RE.rd kInt A5 cp6 a0.Depth, RE.rd kInt A9 cp10 a0.Item, RE.rd kInt A13 cp14 a0.Tri, RE.rd k_Level A17 cp18 a1.Levels, RE.rd k_Ar4_Int A39 cp40 v37.Color, RE.rd kInt A42 cp43 v37.Depth, RE.rd kInt A45 cp46 v37.Item, RE.rd kInt A48 cp49 v37.Tri, RE.hole]) (.all (.br 3 (.all (.br 4 (.all (.br 5 (.all (.br 6 (.lin [.tail 7]) (.stop))) (.stop))) (.br 5 (.all (.br 4 (.all (.br 6 (.lin [.tail 7]) (.stop))) (.stop))) (.stop)))) (.br 4 (.all (.br 3 (.all (.br 5 (.all (.br 6 (.lin [.tail 7]) (.stop))) (.stop))) (.br 5 (.all (.br 3 (.all (.br 6 (.lin [.tail 7]) (.stop))) (.stop))) (.stop)))) (.br 5 (.all (.br 3 (.all (.br 4 (.all (.br 6 (.lin [.tail 7]) (.stop))) (.stop))) (.br 4 (.all (.br 3 (.all (.br 6 (.lin [.tail 7]) (.stop))) (.stop))) (.stop)))) (.stop))))) ?_ ?_
            ·intro hJ1
             refine PRT_meet (fun r' w' => ∃ (b57 : Nat), Agr [(3, .pointer (some ⟨b21, 0, none⟩)), (4, .pointer (some ⟨b23, 0, none⟩)), (5, .pointer (some ⟨b25, 0, none⟩)), (7, .pointer (some ⟨b57, 0, none⟩)), (29, .agg #[.int .i64 a0.W, .int .i64 a0.H, .slice A1 a0.Color.length cp2, .slice A5 a0.Depth.length cp6, .slice A9 a0.Item.length cp10, .slice A13 a0.Tri.length cp14]), (31, .agg #[.slice A17 a1.Levels.length cp18])] r' ∧ Sep ok w w' [.blk b21 25 [.int .i64 a0.W, .int .i64 a0.H, .slice A1 a0.Color.length cp2, .slice A5 a0.Depth.length cp6, .slice A9 a0.Item.length cp10, .slice A13 a0.Tri.length cp14], .blk b23 28 [.slice A17 a1.Levels.length cp18], .blk b25 32 [.int .i64 a2.Rect.X0, .int .i64 a2.Rect.Y0, .int .i64 a2.Rect.X1, .int .i64 a2.Rect.Y1, .int .i64 a2.D], .blk b57 25 [.int .i64 0, .int .i64 0, .slice none 0 0, .slice none 0 0, .slice none 0 0, .slice none 0 0], .hole] [RE.rd k_Ar4_Int A1 cp2 a0.Color, RE.rd kInt A5 cp6 a0.Depth, RE.rd kInt A9 cp10 a0.Item, RE.rd kInt A13 cp14 a0.Tri, RE.rd k_Level A17 cp18 a1.Levels, RE.hole, RE.hole, RE.hole, RE.hole, RE.hole]) (.all (.br 1 (.all (.br 3 (.all (.br 5 (.all (.br 6 (.lin [.tail 7]) (.stop))) (.stop))) (.br 5 (.all (.br 3 (.all (.br 6 (.lin [.tail 7]) (.stop))) (.stop))) (.stop)))) (.br 5 (.all (.br 1 (.all (.br 3 (.all (.br 6 (.lin [.tail 7]) (.stop))) (.stop))) (.stop))) (.stop)))) ?_ ?_
             ·intro hJ4
              refine PRT_meet (fun r' w' => ∃ (b59 : Nat), Agr [(3, .pointer (some ⟨b21, 0, none⟩)), (4, .pointer (some ⟨b23, 0, none⟩)), (5, .pointer (some ⟨b25, 0, none⟩)), (8, .pointer (some ⟨b59, 0, none⟩)), (29, .agg #[.int .i64 a0.W, .int .i64 a0.H, .slice A1 a0.Color.length cp2, .slice A5 a0.Depth.length cp6, .slice A9 a0.Item.length cp10, .slice A13 a0.Tri.length cp14]), (31, .agg #[.slice A17 a1.Levels.length cp18])] r' ∧ Sep ok w w' [.blk b21 25 [.int .i64 a0.W, .int .i64 a0.H, .slice A1 a0.Color.length cp2, .slice A5 a0.Depth.length cp6, .slice A9 a0.Item.length cp10, .slice A13 a0.Tri.length cp14], .blk b23 28 [.slice A17 a1.Levels.length cp18], .blk b25 32 [.int .i64 a2.Rect.X0, .int .i64 a2.Rect.Y0, .int .i64 a2.Rect.X1, .int .i64 a2.Rect.Y1, .int .i64 a2.D], .hole, .blk b59 28 [.slice none 0 0]] [RE.rd k_Ar4_Int A1 cp2 a0.Color, RE.rd kInt A5 cp6 a0.Depth, RE.rd kInt A9 cp10 a0.Item, RE.rd kInt A13 cp14 a0.Tri, RE.rd k_Level A17 cp18 a1.Levels, RE.hole, RE.hole, RE.hole, RE.hole, RE.hole]) (.all (.br 1 (.all (.br 3 (.all (.br 4 (.all (.br 6 (.lin [.tail 7]) (.stop))) (.stop))) (.br 4 (.all (.br 3 (.all (.br 6 (.lin [.tail 7]) (.stop))) (.stop))) (.stop)))) (.br 4 (.all (.br 1 (.all (.br 3 (.all (.br 6 (.lin [.tail 7]) (.stop))) (.stop))) (.stop))) (.stop)))) ?_ ?_
              ·intro hJ5
               have H : Sep ok w w62 [.blk b21 25 [.int .i64 a0.W, .int .i64 a0.H, .slice A1 a0.Color.length cp2, .slice A5 a0.Depth.length cp6, .slice A9 a0.Item.length cp10, .slice A13 a0.Tri.length cp14], .blk b23 28 [.slice A17 a1.Levels.length cp18], .blk b25 32 [.int .i64 a2.Rect.X0, .int .i64 a2.Rect.Y0, .int .i64 a2.Rect.X1, .int .i64 a2.Rect.Y1, .int .i64 a2.D], .hole, .hole] [RE.rd k_Ar4_Int A1 cp2 a0.Color, RE.rd kInt A5 cp6 a0.Depth, RE.rd kInt A9 cp10 a0.Item, RE.rd kInt A13 cp14 a0.Tri, RE.rd k_Level A17 cp18 a1.Levels, RE.hole, RE.hole, RE.hole, RE.hole, RE.hole] := (((((((H).nilHole).nilHole).also (re := RE.hole) trivial).also (re := RE.hole) trivial).also (re := RE.hole) trivial).also (re := RE.hole) trivial).also (re := RE.hole) trivial
               refine PRT_all ?_
               refine PRT_br (by rfl) ?_ ?_
               ·show OpR _ _ _ _ _ _ _
                refine O_call (by exact wn0 rfl) (by rfl) (by rfl) (x_callL (by rfl) (args := [.agg #[.int .i64 a0.W, .int .i64 a0.H, .slice A1 a0.Color.length cp2, .slice A5 a0.Depth.length cp6, .slice A9 a0.Item.length cp10, .slice A13 a0.Tri.length cp14]]) (by rfl) (cf13 _ _)) (c13 (okS ok w [.blk b21 25 [.int .i64 a0.W, .int .i64 a0.H, .slice A1 a0.Color.length cp2, .slice A5 a0.Depth.length cp6, .slice A9 a0.Item.length cp10, .slice A13 a0.Tri.length cp14], .blk b23 28 [.slice A17 a1.Levels.length cp18], .blk b25 32 [.int .i64 a2.Rect.X0, .int .i64 a2.Rect.Y0, .int .i64 a2.Rect.X1, .int .i64 a2.Rect.Y1, .int .i64 a2.D], .hole, .hole]) K w62 a0 A1 cp2 A5 cp6 A9 cp10 A13 cp14 (H.rd (i := 0) (by rfl)) (H.rd (i := 1) (by rfl)) (H.rd (i := 2) (by rfl)) (H.rd (i := 3) (by rfl)) v37 hv36) ?_
                rintro e w38 ⟨A39, cp40, A42, cp43, A45, cp46, A48, cp49, rfl, H2⟩
                have H : Sep ok w w38 [.blk b21 25 [.int .i64 a0.W, .int .i64 a0.H, .slice A1 a0.Color.length cp2, .slice A5 a0.Depth.length cp6, .slice A9 a0.Item.length cp10, .slice A13 a0.Tri.length cp14], .blk b23 28 [.slice A17 a1.Levels.length cp18], .blk b25 32 [.int .i64 a2.Rect.X0, .int .i64 a2.Rect.Y0, .int .i64 a2.Rect.X1, .int .i64 a2.Rect.Y1, .int .i64 a2.D], .hole, .hole] [RE.rd k_Ar4_Int A1 cp2 a0.Color, RE.rd kInt A5 cp6 a0.Depth, RE.rd kInt A9 cp10 a0.Item, RE.rd kInt A13 cp14 a0.Tri, RE.rd k_Level A17 cp18 a1.Levels, RE.hole, RE.hole, RE.hole, RE.hole, RE.hole, RE.rd k_Ar4_Int A39 cp40 v37.Color, RE.rd kInt A42 cp43 v37.Depth, RE.rd kInt A45 cp46 v37.Item, RE.rd kInt A48 cp49 v37.Tri] := H.call H2
                clear H2
                refine ⟨_, rfl, (Sep.takeR (Sep.takeL H 3) 5), ?_⟩
                show PRT _ _ _ _ _ _ _ _
                exact hJ1 _ _ ⟨A39, cp40, A42, cp43, A45, cp46, A48, cp49, ⟨rfl, rfl, rfl, rfl, rfl, trivial⟩, (H).pick [0, 1, 2, 3, 4, 10, 11, 12, 13, 9]⟩
               refine PRT_br (by rfl) ?_ ?_
               ·show OpR _ _ _ _ _ _ _
                refine O_alloc (by exact wn0 rfl) (by rfl) ze25 (by rfl) H (fun w58 b57 (H : Sep ok w w58 [.blk b21 25 [.int .i64 a0.W, .int .i64 a0.H, .slice A1 a0.Color.length cp2, .slice A5 a0.Depth.length cp6, .slice A9 a0.Item.length cp10, .slice A13 a0.Tri.length cp14], .blk b23 28 [.slice A17 a1.Levels.length cp18], .blk b25 32 [.int .i64 a2.Rect.X0, .int .i64 a2.Rect.Y0, .int .i64 a2.Rect.X1, .int .i64 a2.Rect.Y1, .int .i64 a2.D], .hole, .hole, .blk b57 25 [.int .i64 0, .int .i64 0, .slice none 0 0, .slice none 0 0, .slice none 0 0, .slice none 0 0]] [RE.rd k_Ar4_Int A1 cp2 a0.Color, RE.rd kInt A5 cp6 a0.Depth, RE.rd kInt A9 cp10 a0.Item, RE.rd kInt A13 cp14 a0.Tri, RE.rd k_Level A17 cp18 a1.Levels, RE.hole, RE.hole, RE.hole, RE.hole, RE.hole]) => ⟨(Sep.takeR (Sep.takeL H 3) 5), ?_⟩)
                exact hJ4 _ _ ⟨b57, ⟨rfl, rfl, rfl, rfl, rfl, rfl, trivial⟩, (H).pickL [0, 1, 2, 5, 4] (by decide)⟩
               refine PRT_br (by rfl) ?_ ?_
               ·show OpR _ _ _ _ _ _ _
                refine O_alloc (by exact wn0 rfl) (by rfl) ze28 (by rfl) H (fun w60 b59 (H : Sep ok w w60 [.blk b21 25 [.int .i64 a0.W, .int .i64 a0.H, .slice A1 a0.Color.length cp2, .slice A5 a0.Depth.length cp6, .slice A9 a0.Item.length cp10, .slice A13 a0.Tri.length cp14], .blk b23 28 [.slice A17 a1.Levels.length cp18], .blk b25 32 [.int .i64 a2.Rect.X0, .int .i64 a2.Rect.Y0, .int .i64 a2.Rect.X1, .int .i64 a2.Rect.Y1, .int .i64 a2.D], .hole, .hole, .blk b59 28 [.slice none 0 0]] [RE.rd k_Ar4_Int A1 cp2 a0.Color, RE.rd kInt A5 cp6 a0.Depth, RE.rd kInt A9 cp10 a0.Item, RE.rd kInt A13 cp14 a0.Tri, RE.rd k_Level A17 cp18 a1.Levels, RE.hole, RE.hole, RE.hole, RE.hole, RE.hole]) => ⟨(Sep.takeR (Sep.takeL H 3) 5), ?_⟩)
                exact hJ5 _ _ ⟨b59, ⟨rfl, rfl, rfl, rfl, rfl, rfl, trivial⟩, (H).pickL [0, 1, 2, 3, 5] (by decide)⟩
               exact PRT_stop
              ·show ∀ r w, _ → _
               rintro r' w' ⟨b59, hA, H⟩
               obtain ⟨r112, rfl⟩ := regen _ hA; clear hA
               obtain ⟨w113, rfl⟩ : ∃ W : World, W = w' := ⟨_, rfl⟩
               refine PRT_all ?_
               refine PRT_br (by rfl) ?_ ?_
               ·show OpR _ _ _ _ _ _ _
                refine O_call (by exact wn0 rfl) (by rfl) (by rfl) (x_callL (by rfl) (args := [.agg #[.int .i64 a0.W, .int .i64 a0.H, .slice A1 a0.Color.length cp2, .slice A5 a0.Depth.length cp6, .slice A9 a0.Item.length cp10, .slice A13 a0.Tri.length cp14]]) (by rfl) (cf13 _ _)) (c13 (okS ok w [.blk b21 25 [.int .i64 a0.W, .int .i64 a0.H, .slice A1 a0.Color.length cp2, .slice A5 a0.Depth.length cp6, .slice A9 a0.Item.length cp10, .slice A13 a0.Tri.length cp14], .blk b23 28 [.slice A17 a1.Levels.length cp18], .blk b25 32 [.int .i64 a2.Rect.X0, .int .i64 a2.Rect.Y0, .int .i64 a2.Rect.X1, .int .i64 a2.Rect.Y1, .int .i64 a2.D], .hole, .blk b59 28 [.slice none 0 0]]) K w113 a0 A1 cp2 A5 cp6 A9 cp10 A13 cp14 (H.rd (i := 0) (by rfl)) (H.rd (i := 1) (by rfl)) (H.rd (i := 2) (by rfl)) (H.rd (i := 3) (by rfl)) v37 hv36) ?_
                rintro e w38 ⟨A39, cp40, A42, cp43, A45, cp46, A48, cp49, rfl, H2⟩
                have H : Sep ok w w38 [.blk b21 25 [.int .i64 a0.W, .int .i64 a0.H, .slice A1 a0.Color.length cp2, .slice A5 a0.Depth.length cp6, .slice A9 a0.Item.length cp10, .slice A13 a0.Tri.length cp14], .blk b23 28 [.slice A17 a1.Levels.length cp18], .blk b25 32 [.int .i64 a2.Rect.X0, .int .i64 a2.Rect.Y0, .int .i64 a2.Rect.X1, .int .i64 a2.Rect.Y1, .int .i64 a2.D], .hole, .blk b59 28 [.slice none 0 0]] [RE.rd k_Ar4_Int A1 cp2 a0.Color, RE.rd kInt A5 cp6 a0.Depth, RE.rd kInt A9 cp10 a0.Item, RE.rd kInt A13 cp14 a0.Tri, RE.rd k_Level A17 cp18 a1.Levels, RE.hole, RE.hole, RE.hole, RE.hole, RE.hole, RE.rd k_Ar4_Int A39 cp40 v37.Color, RE.rd kInt A42 cp43 v37.Depth, RE.rd kInt A45 cp46 v37.Item, RE.rd kInt A48 cp49 v37.Tri] := H.call H2
                clear H2
                refine ⟨_, rfl, (Sep.takeR (Sep.takeL H 3) 5), ?_⟩
                show PRT _ _ _ _ _ _ _ _
                exact hJ1_5 _ _ ⟨A39, cp40, A42, cp43, A45, cp46, A48, cp49, b59, ⟨rfl, rfl, rfl, rfl, rfl, rfl, trivial⟩, (H).pick [0, 1, 2, 3, 4, 10, 11, 12, 13, 9]⟩
               refine PRT_br (by rfl) ?_ ?_
               ·show OpR _ _ _ _ _ _ _
                refine O_alloc (by exact wn0 rfl) (by rfl) ze25 (by rfl) H (fun w58 b57 (H : Sep ok w w58 [.blk b21 25 [.int .i64 a0.W, .int .i64 a0.H, .slice A1 a0.Color.length cp2, .slice A5 a0.Depth.length cp6, .slice A9 a0.Item.length cp10, .slice A13 a0.Tri.length cp14], .blk b23 28 [.slice A17 a1.Levels.length cp18], .blk b25 32 [.int .i64 a2.Rect.X0, .int .i64 a2.Rect.Y0, .int .i64 a2.Rect.X1, .int .i64 a2.Rect.Y1, .int .i64 a2.D], .hole, .blk b59 28 [.slice none 0 0], .blk b57 25 [.int .i64 0, .int .i64 0, .slice none 0 0, .slice none 0 0, .slice none 0 0, .slice none 0 0]] [RE.rd k_Ar4_Int A1 cp2 a0.Color, RE.rd kInt A5 cp6 a0.Depth, RE.rd kInt A9 cp10 a0.Item, RE.rd kInt A13 cp14 a0.Tri, RE.rd k_Level A17 cp18 a1.Levels, RE.hole, RE.hole, RE.hole, RE.hole, RE.hole]) => ⟨(Sep.takeR (Sep.takeL H 3) 5), ?_⟩)
                exact hJ4_5 _ _ ⟨b57, b59, ⟨rfl, rfl, rfl, rfl, rfl, rfl, rfl, trivial⟩, (H).pickL [0, 1, 2, 5, 4] (by decide)⟩
               exact PRT_stop
             ·show ∀ r w, _ → _
              rintro r' w' ⟨b57, hA, H⟩
              obtain ⟨r114, rfl⟩ := regen _ hA; clear hA
              obtain ⟨w115, rfl⟩ : ∃ W : World, W = w' := ⟨_, rfl⟩
              refine PRT_all ?_
              refine PRT_br (by rfl) ?_ ?_
              ·show OpR _ _ _ _ _ _ _
               refine O_call (by exact wn0 rfl) (by rfl) (by rfl) (x_callL (by rfl) (args := [.agg #[.int .i64 a0.W, .int .i64 a0.H, .slice A1 a0.Color.length cp2, .slice A5 a0.Depth.length cp6, .slice A9 a0.Item.length cp10, .slice A13 a0.Tri.length cp14]]) (by rfl) (cf13 _ _)) (c13 (okS ok w [.blk b21 25 [.int .i64 a0.W, .int .i64 a0.H, .slice A1 a0.Color.length cp2, .slice A5 a0.Depth.length cp6, .slice A9 a0.Item.length cp10, .slice A13 a0.Tri.length cp14], .blk b23 28 [.slice A17 a1.Levels.length cp18], .blk b25 32 [.int .i64 a2.Rect.X0, .int .i64 a2.Rect.Y0, .int .i64 a2.Rect.X1, .int .i64 a2.Rect.Y1, .int .i64 a2.D], .blk b57 25 [.int .i64 0, .int .i64 0, .slice none 0 0, .slice none 0 0, .slice none 0 0, .slice none 0 0], .hole]) K w115 a0 A1 cp2 A5 cp6 A9 cp10 A13 cp14 (H.rd (i := 0) (by rfl)) (H.rd (i := 1) (by rfl)) (H.rd (i := 2) (by rfl)) (H.rd (i := 3) (by rfl)) v37 hv36) ?_
               rintro e w38 ⟨A39, cp40, A42, cp43, A45, cp46, A48, cp49, rfl, H2⟩
               have H : Sep ok w w38 [.blk b21 25 [.int .i64 a0.W, .int .i64 a0.H, .slice A1 a0.Color.length cp2, .slice A5 a0.Depth.length cp6, .slice A9 a0.Item.length cp10, .slice A13 a0.Tri.length cp14], .blk b23 28 [.slice A17 a1.Levels.length cp18], .blk b25 32 [.int .i64 a2.Rect.X0, .int .i64 a2.Rect.Y0, .int .i64 a2.Rect.X1, .int .i64 a2.Rect.Y1, .int .i64 a2.D], .blk b57 25 [.int .i64 0, .int .i64 0, .slice none 0 0, .slice none 0 0, .slice none 0 0, .slice none 0 0], .hole] [RE.rd k_Ar4_Int A1 cp2 a0.Color, RE.rd kInt A5 cp6 a0.Depth, RE.rd kInt A9 cp10 a0.Item, RE.rd kInt A13 cp14 a0.Tri, RE.rd k_Level A17 cp18 a1.Levels, RE.hole, RE.hole, RE.hole, RE.hole, RE.hole, RE.rd k_Ar4_Int A39 cp40 v37.Color, RE.rd kInt A42 cp43 v37.Depth, RE.rd kInt A45 cp46 v37.Item, RE.rd kInt A48 cp49 v37.Tri] := H.call H2
               clear H2
               refine ⟨_, rfl, (Sep.takeR (Sep.takeL H 3) 5), ?_⟩
               show PRT _ _ _ _ _ _ _ _
               exact hJ1_4 _ _ ⟨A39, cp40, A42, cp43, A45, cp46, A48, cp49, b57, ⟨rfl, rfl, rfl, rfl, rfl, rfl, trivial⟩, (H).pick [0, 1, 2, 3, 4, 10, 11, 12, 13, 9]⟩
              refine PRT_br (by rfl) ?_ ?_
              ·show OpR _ _ _ _ _ _ _
               refine O_alloc (by exact wn0 rfl) (by rfl) ze28 (by rfl) H (fun w60 b59 (H : Sep ok w w60 [.blk b21 25 [.int .i64 a0.W, .int .i64 a0.H, .slice A1 a0.Color.length cp2, .slice A5 a0.Depth.length cp6, .slice A9 a0.Item.length cp10, .slice A13 a0.Tri.length cp14], .blk b23 28 [.slice A17 a1.Levels.length cp18], .blk b25 32 [.int .i64 a2.Rect.X0, .int .i64 a2.Rect.Y0, .int .i64 a2.Rect.X1, .int .i64 a2.Rect.Y1, .int .i64 a2.D], .blk b57 25 [.int .i64 0, .int .i64 0, .slice none 0 0, .slice none 0 0, .slice none 0 0, .slice none 0 0], .hole, .blk b59 28 [.slice none 0 0]] [RE.rd k_Ar4_Int A1 cp2 a0.Color, RE.rd kInt A5 cp6 a0.Depth, RE.rd kInt A9 cp10 a0.Item, RE.rd kInt A13 cp14 a0.Tri, RE.rd k_Level A17 cp18 a1.Levels, RE.hole, RE.hole, RE.hole, RE.hole, RE.hole]) => ⟨(Sep.takeR (Sep.takeL H 3) 5), ?_⟩)
               exact hJ4_5 _ _ ⟨b57, b59, ⟨rfl, rfl, rfl, rfl, rfl, rfl, rfl, trivial⟩, (H).pickL [0, 1, 2, 3, 5] (by decide)⟩
              exact PRT_stop
            ·show ∀ r w, _ → _
             rintro r' w' ⟨A39, cp40, A42, cp43, A45, cp46, A48, cp49, hA, H⟩
             obtain ⟨r116, rfl⟩ := regen _ hA; clear hA
             obtain ⟨w117, rfl⟩ : ∃ W : World, W = w' := ⟨_, rfl⟩
             refine PRT_all ?_
             refine PRT_br (by rfl) ?_ ?_
             ·show OpR _ _ _ _ _ _ _
              refine O_call (by exact wn0 rfl) (by rfl) (by rfl) (x_callL (by rfl) (args := [.agg #[.slice A17 a1.Levels.length cp18]]) (by rfl) (cf14 _ _)) (c14 (okS ok w [.blk b21 25 [.int .i64 a0.W, .int .i64 a0.H, .slice A1 a0.Color.length cp2, .slice A5 a0.Depth.length cp6, .slice A9 a0.Item.length cp10, .slice A13 a0.Tri.length cp14], .blk b23 28 [.slice A17 a1.Levels.length cp18], .blk b25 32 [.int .i64 a2.Rect.X0, .int .i64 a2.Rect.Y0, .int .i64 a2.Rect.X1, .int .i64 a2.Rect.Y1, .int .i64 a2.D], .hole, .hole]) K w117 a1 A17 cp18 (H.rd (i := 4) (by rfl)) v52 hv51) ?_
              rintro e w53 ⟨A54, cp55, rfl, H2⟩
              have H : Sep ok w w53 [.blk b21 25 [.int .i64 a0.W, .int .i64 a0.H, .slice A1 a0.Color.length cp2, .slice A5 a0.Depth.length cp6, .slice A9 a0.Item.length cp10, .slice A13 a0.Tri.length cp14], .blk b23 28 [.slice A17 a1.Levels.length cp18], .blk b25 32 [.int .i64 a2.Rect.X0, .int .i64 a2.Rect.Y0, .int .i64 a2.Rect.X1, .int .i64 a2.Rect.Y1, .int .i64 a2.D], .hole, .hole] [RE.rd k_Ar4_Int A1 cp2 a0.Color, RE.rd kInt A5 cp6 a0.Depth, RE.rd kInt A9 cp10 a0.Item, RE.rd kInt A13 cp14 a0.Tri, RE.rd k_Level A17 cp18 a1.Levels, RE.rd k_Ar4_Int A39 cp40 v37.Color, RE.rd kInt A42 cp43 v37.Depth, RE.rd kInt A45 cp46 v37.Item, RE.rd kInt A48 cp49 v37.Tri, RE.hole, RE.rd k_Level A54 cp55 v52.Levels] := H.call H2
              clear H2
              refine ⟨_, rfl, (Sep.takeR (Sep.takeL H 3) 5), ?_⟩
              show PRT _ _ _ _ _ _ _ _
              exact hJ1_3 _ _ ⟨A39, cp40, A42, cp43, A45, cp46, A48, cp49, A54, cp55, ⟨rfl, rfl, rfl, rfl, rfl, trivial⟩, (H).pick [0, 1, 2, 3, 4, 5, 6, 7, 8, 10]⟩
             refine PRT_br (by rfl) ?_ ?_
             ·show OpR _ _ _ _ _ _ _
              refine O_alloc (by exact wn0 rfl) (by rfl) ze25 (by rfl) H (fun w58 b57 (H : Sep ok w w58 [.blk b21 25 [.int .i64 a0.W, .int .i64 a0.H, .slice A1 a0.Color.length cp2, .slice A5 a0.Depth.length cp6, .slice A9 a0.Item.length cp10, .slice A13 a0.Tri.length cp14], .blk b23 28 [.slice A17 a1.Levels.length cp18], .blk b25 32 [.int .i64 a2.Rect.X0, .int .i64 a2.Rect.Y0, .int .i64 a2.Rect.X1, .int .i64 a2.Rect.Y1, .int .i64 a2.D], .hole, .hole, .blk b57 25 [.int .i64 0, .int .i64 0, .slice none 0 0, .slice none 0 0, .slice none 0 0, .slice none 0 0]] [RE.rd k_Ar4_Int A1 cp2 a0.Color, RE.rd kInt A5 cp6 a0.Depth, RE.rd kInt A9 cp10 a0.Item, RE.rd kInt A13 cp14 a0.Tri, RE.rd k_Level A17 cp18 a1.Levels, RE.rd k_Ar4_Int A39 cp40 v37.Color, RE.rd kInt A42 cp43 v37.Depth, RE.rd kInt A45 cp46 v37.Item, RE.rd kInt A48 cp49 v37.Tri, RE.hole]) => ⟨(Sep.takeR (Sep.takeL H 3) 5), ?_⟩)
              exact hJ1_4 _ _ ⟨A39, cp40, A42, cp43, A45, cp46, A48, cp49, b57, ⟨rfl, rfl, rfl, rfl, rfl, rfl, trivial⟩, (H).pickL [0, 1, 2, 5, 4] (by decide)⟩
             refine PRT_br (by rfl) ?_ ?_
             ·show OpR _ _ _ _ _ _ _
              refine O_alloc (by exact wn0 rfl) (by rfl) ze28 (by rfl) H (fun w60 b59 (H : Sep ok w w60 [.blk b21 25 [.int .i64 a0.W, .int .i64 a0.H, .slice A1 a0.Color.length cp2, .slice A5 a0.Depth.length cp6, .slice A9 a0.Item.length cp10, .slice A13 a0.Tri.length cp14], .blk b23 28 [.slice A17 a1.Levels.length cp18], .blk b25 32 [.int .i64 a2.Rect.X0, .int .i64 a2.Rect.Y0, .int .i64 a2.Rect.X1, .int .i64 a2.Rect.Y1, .int .i64 a2.D], .hole, .hole, .blk b59 28 [.slice none 0 0]] [RE.rd k_Ar4_Int A1 cp2 a0.Color, RE.rd kInt A5 cp6 a0.Depth, RE.rd kInt A9 cp10 a0.Item, RE.rd kInt A13 cp14 a0.Tri, RE.rd k_Level A17 cp18 a1.Levels, RE.rd k_Ar4_Int A39 cp40 v37.Color, RE.rd kInt A42 cp43 v37.Depth, RE.rd kInt A45 cp46 v37.Item, RE.rd kInt A48 cp49 v37.Tri, RE.hole]) => ⟨(Sep.takeR (Sep.takeL H 3) 5), ?_⟩)
              exact hJ1_5 _ _ ⟨A39, cp40, A42, cp43, A45, cp46, A48, cp49, b59, ⟨rfl, rfl, rfl, rfl, rfl, rfl, trivial⟩, (H).pickL [0, 1, 2, 3, 5] (by decide)⟩
             exact PRT_stop
           ·show ∀ r w, _ → _
            rintro r' w' ⟨b57, b59, hA, H⟩
            obtain ⟨r118, rfl⟩ := regen _ hA; clear hA
            obtain ⟨w119, rfl⟩ : ∃ W : World, W = w' := ⟨_, rfl⟩
            refine PRT_all ?_
            refine PRT_br (by rfl) ?_ ?_
            ·show OpR _ _ _ _ _ _ _
             refine O_call (by exact wn0 rfl) (by rfl) (by rfl) (x_callL (by rfl) (args := [.agg #[.int .i64 a0.W, .int .i64 a0.H, .slice A1 a0.Color.length cp2, .slice A5 a0.Depth.length cp6, .slice A9 a0.Item.length cp10, .slice A13 a0.Tri.length cp14]]) (by rfl) (cf13 _ _)) (c13 (okS ok w [.blk b21 25 [.int .i64 a0.W, .int .i64 a0.H, .slice A1 a0.Color.length cp2, .slice A5 a0.Depth.length cp6, .slice A9 a0.Item.length cp10, .slice A13 a0.Tri.length cp14], .blk b23 28 [.slice A17 a1.Levels.length cp18], .blk b25 32 [.int .i64 a2.Rect.X0, .int .i64 a2.Rect.Y0, .int .i64 a2.Rect.X1, .int .i64 a2.Rect.Y1, .int .i64 a2.D], .blk b57 25 [.int .i64 0, .int .i64 0, .slice none 0 0, .slice none 0 0, .slice none 0 0, .slice none 0 0], .blk b59 28 [.slice none 0 0]]) K w119 a0 A1 cp2 A5 cp6 A9 cp10 A13 cp14 (H.rd (i := 0) (by rfl)) (H.rd (i := 1) (by rfl)) (H.rd (i := 2) (by rfl)) (H.rd (i := 3) (by rfl)) v37 hv36) ?_
             rintro e w38 ⟨A39, cp40, A42, cp43, A45, cp46, A48, cp49, rfl, H2⟩
             have H : Sep ok w w38 [.blk b21 25 [.int .i64 a0.W, .int .i64 a0.H, .slice A1 a0.Color.length cp2, .slice A5 a0.Depth.length cp6, .slice A9 a0.Item.length cp10, .slice A13 a0.Tri.length cp14], .blk b23 28 [.slice A17 a1.Levels.length cp18], .blk b25 32 [.int .i64 a2.Rect.X0, .int .i64 a2.Rect.Y0, .int .i64 a2.Rect.X1, .int .i64 a2.Rect.Y1, .int .i64 a2.D], .blk b57 25 [.int .i64 0, .int .i64 0, .slice none 0 0, .slice none 0 0, .slice none 0 0, .slice none 0 0], .blk b59 28 [.slice none 0 0]] [RE.rd k_Ar4_Int A1 cp2 a0.Color, RE.rd kInt A5 cp6 a0.Depth, RE.rd kInt A9 cp10 a0.Item, RE.rd kInt A13 cp14 a0.Tri, RE.rd k_Level A17 cp18 a1.Levels, RE.hole, RE.hole, RE.hole, RE.hole, RE.hole, RE.rd k_Ar4_Int A39 cp40 v37.Color, RE.rd kInt A42 cp43 v37.Depth, RE.rd kInt A45 cp46 v37.Item, RE.rd kInt A48 cp49 v37.Tri] := H.call H2
             clear H2
             refine ⟨_, rfl, (Sep.takeR (Sep.takeL H 3) 5), ?_⟩
             show PRT _ _ _ _ _ _ _ _
             exact hJ1_4_5 _ _ ⟨A39, cp40, A42, cp43, A45, cp46, A48, cp49, b57, b59, ⟨rfl, rfl, rfl, rfl, rfl, rfl, rfl, trivial⟩, (H).pick [0, 1, 2, 3, 4, 10, 11, 12, 13, 9]⟩
            exact PRT_stop
          ·show ∀ r w, _ → _
           rintro r' w' ⟨A39, cp40, A42, cp43, A45, cp46, A48, cp49, b59, hA, H⟩
           obtain ⟨r120, rfl⟩ := regen _ hA; clear hA
           obtain ⟨w121, rfl⟩ : ∃ W : World, W = w' := ⟨_, rfl⟩
           refine PRT_all ?_
           refine PRT_br (by rfl) ?_ ?_
           ·show OpR _ _ _ _ _ _ _
            refine O_call (by exact wn0 rfl) (by rfl) (by rfl) (x_callL (by rfl) (args := [.agg #[.slice A17 a1.Levels.length cp18]]) (by rfl) (cf14 _ _)) (c14 (okS ok w [.blk b21 25 [.int .i64 a0.W, .int .i64 a0.H, .slice A1 a0.Color.length cp2, .slice A5 a0.Depth.length cp6, .slice A9 a0.Item.length cp10, .slice A13 a0.Tri.length cp14], .blk b23 28 [.slice A17 a1.Levels.length cp18], .blk b25 32 [.int .i64 a2.Rect.X0, .int .i64 a2.Rect.Y0, .int .i64 a2.Rect.X1, .int .i64 a2.Rect.Y1, .int .i64 a2.D], .hole, .blk b59 28 [.slice none 0 0]]) K w121 a1 A17 cp18 (H.rd (i := 4) (by rfl)) v52 hv51) ?_
            rintro e w53 ⟨A54, cp55, rfl, H2⟩
            have H : Sep ok w w53 [.blk b21 25 [.int .i64 a0.W, .int .i64 a0.H, .slice A1 a0.Color.length cp2, .slice A5 a0.Depth.length cp6, .slice A9 a0.Item.length cp10, .slice A13 a0.Tri.length cp14], .blk b23 28 [.slice A17 a1.Levels.length cp18], .blk b25 32 [.int .i64 a2.Rect.X0, .int .i64 a2.Rect.Y0, .int .i64 a2.Rect.X1, .int .i64 a2.Rect.Y1, .int .i64 a2.D], .hole, .blk b59 28 [.slice none 0 0]] [RE.rd k_Ar4_Int A1 cp2 a0.Color, RE.rd kInt A5 cp6 a0.Depth, RE.rd kInt A9 cp10 a0.Item, RE.rd kInt A13 cp14 a0.Tri, RE.rd k_Level A17 cp18 a1.Levels, RE.rd k_Ar4_Int A39 cp40 v37.Color, RE.rd kInt A42 cp43 v37.Depth, RE.rd kInt A45 cp46 v37.Item, RE.rd kInt A48 cp49 v37.Tri, RE.hole, RE.rd k_Level A54 cp55 v52.Levels] := H.call H2
            clear H2
            refine ⟨_, rfl, (Sep.takeR (Sep.takeL H 3) 5), ?_⟩
            show PRT _ _ _ _ _ _ _ _
            exact hJ1_3_5 _ _ ⟨A39, cp40, A42, cp43, A45, cp46, A48, cp49, A54, cp55, b59, ⟨rfl, rfl, rfl, rfl, rfl, rfl, trivial⟩, (H).pick [0, 1, 2, 3, 4, 5, 6, 7, 8, 10]⟩
           refine PRT_br (by rfl) ?_ ?_
           ·show OpR _ _ _ _ _ _ _
            refine O_alloc (by exact wn0 rfl) (by rfl) ze25 (by rfl) H (fun w58 b57 (H : Sep ok w w58 [.blk b21 25 [.int .i64 a0.W, .int .i64 a0.H, .slice A1 a0.Color.length cp2, .slice A5 a0.Depth.length cp6, .slice A9 a0.Item.length cp10, .slice A13 a0.Tri.length cp14], .blk b23 28 [.slice A17 a1.Levels.length cp18], .blk b25 32 [.int .i64 a2.Rect.X0, .int .i64 a2.Rect.Y0, .int .i64 a2.Rect.X1, .int .i64 a2.Rect.Y1, .int .i64 a2.D], .hole, .blk b59 28 [.slice none 0 0], .blk b57 25 [.int .i64 0, .int .i64 0, .slice none 0 0, .slice none 0 0, .slice none 0 0, .slice none 0 0]] [RE.rd k_Ar4_Int A1 cp2 a0.Color, RE.rd kInt A5 cp6 a0.Depth, RE.rd kInt A9 cp10 a0.Item, RE.rd kInt A13 cp14 a0.Tri, RE.rd k_Level A17 cp18 a1.Levels, RE.rd k_Ar4_Int A39 cp40 v37.Color, RE.rd kInt A42 cp43 v37.Depth, RE.rd kInt A45 cp46 v37.Item, RE.rd kInt A48 cp49 v37.Tri, RE.hole]) => ⟨(Sep.takeR (Sep.takeL H 3) 5), ?_⟩)
            exact hJ1_4_5 _ _ ⟨A39, cp40, A42, cp43, A45, cp46, A48, cp49, b57, b59, ⟨rfl, rfl, rfl, rfl, rfl, rfl, rfl, trivial⟩, (H).pickL [0, 1, 2, 5, 4] (by decide)⟩
           exact PRT_stop
         ·show ∀ r w, _ → _
          rintro r' w' ⟨A39, cp40, A42, cp43, A45, cp46, A48, cp49, b57, hA, H⟩
          obtain ⟨r122, rfl⟩ := regen _ hA; clear hA
          obtain ⟨w123, rfl⟩ : ∃ W : World, W = w' := ⟨_, rfl⟩
          refine PRT_all ?_
          refine PRT_br (by rfl) ?_ ?_
          ·show OpR _ _ _ _ _ _ _
           refine O_call (by exact wn0 rfl) (by rfl) (by rfl) (x_callL (by rfl) (args := [.agg #[.slice A17 a1.Levels.length cp18]]) (by rfl) (cf14 _ _)) (c14 (okS ok w [.blk b21 25 [.int .i64 a0.W, .int .i64 a0.H, .slice A1 a0.Color.length cp2, .slice A5 a0.Depth.length cp6, .slice A9 a0.Item.length cp10, .slice A13 a0.Tri.length cp14], .blk b23 28 [.slice A17 a1.Levels.length cp18], .blk b25 32 [.int .i64 a2.Rect.X0, .int .i64 a2.Rect.Y0, .int .i64 a2.Rect.X1, .int .i64 a2.Rect.Y1, .int .i64 a2.D], .blk b57 25 [.int .i64 0, .int .i64 0, .slice none 0 0, .slice none 0 0, .slice none 0 0, .slice none 0 0], .hole]) K w123 a1 A17 cp18 (H.rd (i := 4) (by rfl)) v52 hv51) ?_
           rintro e w53 ⟨A54, cp55, rfl, H2⟩
           have H : Sep ok w w53 [.blk b21 25 [.int .i64 a0.W, .int .i64 a0.H, .slice A1 a0.Color.length cp2, .slice A5 a0.Depth.length cp6, .slice A9 a0.Item.length cp10, .slice A13 a0.Tri.length cp14], .blk b23 28 [.slice A17 a1.Levels.length cp18], .blk b25 32 [.int .i64 a2.Rect.X0, .int .i64 a2.Rect.Y0, .int .i64 a2.Rect.X1, .int .i64 a2.Rect.Y1, .int .i64 a2.D], .blk b57 25 [.int .i64 0, .int .i64 0, .slice none 0 0, .slice none 0 0, .slice none 0 0, .slice none 0 0], .hole] [RE.rd k_Ar4_Int A1 cp2 a0.Color, RE.rd kInt A5 cp6 a0.Depth, RE.rd kInt A9 cp10 a0.Item, RE.rd kInt A13 cp14 a0.Tri, RE.rd k_Level A17 cp18 a1.Levels, RE.rd k_Ar4_Int A39 cp40 v37.Color, RE.rd kInt A42 cp43 v37.Depth, RE.rd kInt A45 cp46 v37.Item, RE.rd kInt A48 cp49 v37.Tri, RE.hole, RE.rd k_Level A54 cp55 v52.Levels] := H.call H2
           clear H2
           refine ⟨_, rfl, (Sep.takeR (Sep.takeL H 3) 5), ?_⟩
           show PRT _ _ _ _ _ _ _ _
           exact hJ1_3_4 _ _ ⟨A39, cp40, A42, cp43, A45, cp46, A48, cp49, A54, cp55, b57, ⟨rfl, rfl, rfl, rfl, rfl, rfl, trivial⟩, (H).pick [0, 1, 2, 3, 4, 5, 6, 7, 8, 10]⟩
          refine PRT_br (by rfl) ?_ ?_
          ·show OpR _ _ _ _ _ _ _
           refine O_alloc (by exact wn0 rfl) (by rfl) ze28 (by rfl) H (fun w60 b59 (H : Sep ok w w60 [.blk b21 25 [.int .i64 a0.W, .int .i64 a0.H, .slice A1 a0.Color.length cp2, .slice A5 a0.Depth.length cp6, .slice A9 a0.Item.length cp10, .slice A13 a0.Tri.length cp14], .blk b23 28 [.slice A17 a1.Levels.length cp18], .blk b25 32 [.int .i64 a2.Rect.X0, .int .i64 a2.Rect.Y0, .int .i64 a2.Rect.X1, .int .i64 a2.Rect.Y1, .int .i64 a2.D], .blk b57 25 [.int .i64 0, .int .i64 0, .slice none 0 0, .slice none 0 0, .slice none 0 0, .slice none 0 0], .hole, .blk b59 28 [.slice none 0 0]] [RE.rd k_Ar4_Int A1 cp2 a0.Color, RE.rd kInt A5 cp6 a0.Depth, RE.rd kInt A9 cp10 a0.Item, RE.rd kInt A13 cp14 a0.Tri, RE.rd k_Level A17 cp18 a1.Levels, RE.rd k_Ar4_Int A39 cp40 v37.Color, RE.rd kInt A42 cp43 v37.Depth, RE.rd kInt A45 cp46 v37.Item, RE.rd kInt A48 cp49 v37.Tri, RE.hole]) => ⟨(Sep.takeR (Sep.takeL H 3) 5), ?_⟩)
           exact hJ1_4_5 _ _ ⟨A39, cp40, A42, cp43, A45, cp46, A48, cp49, b57, b59, ⟨rfl, rfl, rfl, rfl, rfl, rfl, rfl, trivial⟩, (H).pickL [0, 1, 2, 3, 5] (by decide)⟩
          exact PRT_stop
        ·show ∀ r w, _ → _
         rintro r' w' ⟨A39, cp40, A42, cp43, A45, cp46, A48, cp49, A54, cp55, hA, H⟩
         obtain ⟨r124, rfl⟩ := regen _ hA; clear hA
         obtain ⟨w125, rfl⟩ : ∃ W : World, W = w' := ⟨_, rfl⟩
         refine PRT_all ?_
         refine PRT_br (by rfl) ?_ ?_
         ·show OpR _ _ _ _ _ _ _
          refine O_alloc (by exact wn0 rfl) (by rfl) ze25 (by rfl) H (fun w58 b57 (H : Sep ok w w58 [.blk b21 25 [.int .i64 a0.W, .int .i64 a0.H, .slice A1 a0.Color.length cp2, .slice A5 a0.Depth.length cp6, .slice A9 a0.Item.length cp10, .slice A13 a0.Tri.length cp14], .blk b23 28 [.slice A17 a1.Levels.length cp18], .blk b25 32 [.int .i64 a2.Rect.X0, .int .i64 a2.Rect.Y0, .int .i64 a2.Rect.X1, .int .i64 a2.Rect.Y1, .int .i64 a2.D], .hole, .hole, .blk b57 25 [.int .i64 0, .int .i64 0, .slice none 0 0, .slice none 0 0, .slice none 0 0, .slice none 0 0]] [RE.rd k_Ar4_Int A1 cp2 a0.Color, RE.rd kInt A5 cp6 a0.Depth, RE.rd kInt A9 cp10 a0.Item, RE.rd kInt A13 cp14 a0.Tri, RE.rd k_Level A17 cp18 a1.Levels, RE.rd k_Ar4_Int A39 cp40 v37.Color, RE.rd kInt A42 cp43 v37.Depth, RE.rd kInt A45 cp46 v37.Item, RE.rd kInt A48 cp49 v37.Tri, RE.rd k_Level A54 cp55 v52.Levels]) => ⟨(Sep.takeR (Sep.takeL H 3) 5), ?_⟩)
          exact hJ1_3_4 _ _ ⟨A39, cp40, A42, cp43, A45, cp46, A48, cp49, A54, cp55, b57, ⟨rfl, rfl, rfl, rfl, rfl, rfl, trivial⟩, (H).pickL [0, 1, 2, 5, 4] (by decide)⟩
         refine PRT_br (by rfl) ?_ ?_
         ·show OpR _ _ _ _ _ _ _
          refine O_alloc (by exact wn0 rfl) (by rfl) ze28 (by rfl) H (fun w60 b59 (H : Sep ok w w60 [.blk b21 25 [.int .i64 a0.W, .int .i64 a0.H, .slice A1 a0.Color.length cp2, .slice A5 a0.Depth.length cp6, .slice A9 a0.Item.length cp10, .slice A13 a0.Tri.length cp14], .blk b23 28 [.slice A17 a1.Levels.length cp18], .blk b25 32 [.int .i64 a2.Rect.X0, .int .i64 a2.Rect.Y0, .int .i64 a2.Rect.X1, .int .i64 a2.Rect.Y1, .int .i64 a2.D], .hole, .hole, .blk b59 28 [.slice none 0 0]] [RE.rd k_Ar4_Int A1 cp2 a0.Color, RE.rd kInt A5 cp6 a0.Depth, RE.rd kInt A9 cp10 a0.Item, RE.rd kInt A13 cp14 a0.Tri, RE.rd k_Level A17 cp18 a1.Levels, RE.rd k_Ar4_Int A39 cp40 v37.Color, RE.rd kInt A42 cp43 v37.Depth, RE.rd kInt A45 cp46 v37.Item, RE.rd kInt A48 cp49 v37.Tri, RE.rd k_Level A54 cp55 v52.Levels]) => ⟨(Sep.takeR (Sep.takeL H 3) 5), ?_⟩)
          exact hJ1_3_5 _ _ ⟨A39, cp40, A42, cp43, A45, cp46, A48, cp49, A54, cp55, b59, ⟨rfl, rfl, rfl, rfl, rfl, rfl, trivial⟩, (H).pickL [0, 1, 2, 3, 5] (by decide)⟩
         exact PRT_stop
       ·show ∀ r w, _ → _
        rintro r' w' ⟨A39, cp40, A42, cp43, A45, cp46, A48, cp49, b57, b59, hA, H⟩
        obtain ⟨r126, rfl⟩ := regen _ hA; clear hA
        obtain ⟨w127, rfl⟩ : ∃ W : World, W = w' := ⟨_, rfl⟩
        refine PRT_all ?_
        refine PRT_br (by rfl) ?_ ?_
        ·show OpR _ _ _ _ _ _ _
         refine O_call (by exact wn0 rfl) (by rfl) (by rfl) (x_callL (by rfl) (args := [.agg #[.slice A17 a1.Levels.length cp18]]) (by rfl) (cf14 _ _)) (c14 (okS ok w [.blk b21 25 [.int .i64 a0.W, .int .i64 a0.H, .slice A1 a0.Color.length cp2, .slice A5 a0.Depth.length cp6, .slice A9 a0.Item.length cp10, .slice A13 a0.Tri.length cp14], .blk b23 28 [.slice A17 a1.Levels.length cp18], .blk b25 32 [.int .i64 a2.Rect.X0, .int .i64 a2.Rect.Y0, .int .i64 a2.Rect.X1, .int .i64 a2.Rect.Y1, .int .i64 a2.D], .blk b57 25 [.int .i64 0, .int .i64 0, .slice none 0 0, .slice none 0 0, .slice none 0 0, .slice none 0 0], .blk b59 28 [.slice none 0 0]]) K w127 a1 A17 cp18 (H.rd (i := 4) (by rfl)) v52 hv51) ?_
         rintro e w53 ⟨A54, cp55, rfl, H2⟩
         have H : Sep ok w w53 [.blk b21 25 [.int .i64 a0.W, .int .i64 a0.H, .slice A1 a0.Color.length cp2, .slice A5 a0.Depth.length cp6, .slice A9 a0.Item.length cp10, .slice A13 a0.Tri.length cp14], .blk b23 28 [.slice A17 a1.Levels.length cp18], .blk b25 32 [.int .i64 a2.Rect.X0, .int .i64 a2.Rect.Y0, .int .i64 a2.Rect.X1, .int .i64 a2.Rect.Y1, .int .i64 a2.D], .blk b57 25 [.int .i64 0, .int .i64 0, .slice none 0 0, .slice none 0 0, .slice none 0 0, .slice none 0 0], .blk b59 28 [.slice none 0 0]] [RE.rd k_Ar4_Int A1 cp2 a0.Color, RE.rd kInt A5 cp6 a0.Depth, RE.rd kInt A9 cp10 a0.Item, RE.rd kInt A13 cp14 a0.Tri, RE.rd k_Level A17 cp18 a1.Levels, RE.rd k_Ar4_Int A39 cp40 v37.Color, RE.rd kInt A42 cp43 v37.Depth, RE.rd kInt A45 cp46 v37.Item, RE.rd kInt A48 cp49 v37.Tri, RE.hole, RE.rd k_Level A54 cp55 v52.Levels] := H.call H2
         clear H2
         refine ⟨_, rfl, (Sep.takeR (Sep.takeL H 3) 5), ?_⟩
         show PRT _ _ _ _ _ _ _ _
         exact hJ1_3_4_5 _ _ ⟨A39, cp40, A42, cp43, A45, cp46, A48, cp49, A54, cp55, b57, b59, ⟨rfl, rfl, rfl, rfl, rfl, rfl, rfl, trivial⟩, (H).pick [0, 1, 2, 3, 4, 5, 6, 7, 8, 10]⟩
        exact PRT_stop
      ·show ∀ r w, _ → _
       rintro r' w' ⟨A39, cp40, A42, cp43, A45, cp46, A48, cp49, A54, cp55, b59, hA, H⟩
       obtain ⟨r128, rfl⟩ := regen _ hA; clear hA
       obtain ⟨w129, rfl⟩ : ∃ W : World, W = w' := ⟨_, rfl⟩
       refine PRT_all ?_
       refine PRT_br (by rfl) ?_ ?_
       ·show OpR _ _ _ _ _ _ _
        refine O_alloc (by exact wn0 rfl) (by rfl) ze25 (by rfl) H (fun w58 b57 (H : Sep ok w w58 [.blk b21 25 [.int .i64 a0.W, .int .i64 a0.H, .slice A1 a0.Color.length cp2, .slice A5 a0.Depth.length cp6, .slice A9 a0.Item.length cp10, .slice A13 a0.Tri.length cp14], .blk b23 28 [.slice A17 a1.Levels.length cp18], .blk b25 32 [.int .i64 a2.Rect.X0, .int .i64 a2.Rect.Y0, .int .i64 a2.Rect.X1, .int .i64 a2.Rect.Y1, .int .i64 a2.D], .hole, .blk b59 28 [.slice none 0 0], .blk b57 25 [.int .i64 0, .int .i64 0, .slice none 0 0, .slice none 0 0, .slice none 0 0, .slice none 0 0]] [RE.rd k_Ar4_Int A1 cp2 a0.Color, RE.rd kInt A5 cp6 a0.Depth, RE.rd kInt A9 cp10 a0.Item, RE.rd kInt A13 cp14 a0.Tri, RE.rd k_Level A17 cp18 a1.Levels, RE.rd k_Ar4_Int A39 cp40 v37.Color, RE.rd kInt A42 cp43 v37.Depth, RE.rd kInt A45 cp46 v37.Item, RE.rd kInt A48 cp49 v37.Tri, RE.rd k_Level A54 cp55 v52.Levels]) => ⟨(Sep.takeR (Sep.takeL H 3) 5), ?_⟩)
        exact hJ1_3_4_5 _ _ ⟨A39, cp40, A42, cp43, A45, cp46, A48, cp49, A54, cp55, b57, b59, ⟨rfl, rfl, rfl, rfl, rfl, rfl, rfl, trivial⟩, (H).pickL [0, 1, 2, 5, 4] (by decide)⟩
       exact PRT_stop
     ·show ∀ r w, _ → _
      rintro r' w' ⟨A39, cp40, A42, cp43, A45, cp46, A48, cp49, A54, cp55, b57, hA, H⟩
      obtain ⟨r130, rfl⟩ := regen _ hA; clear hA
      obtain ⟨w131, rfl⟩ : ∃ W : World, W = w' := ⟨_, rfl⟩
      refine PRT_all ?_
      refine PRT_br (by rfl) ?_ ?_
      ·show OpR _ _ _ _ _ _ _
       refine O_alloc (by exact wn0 rfl) (by rfl) ze28 (by rfl) H (fun w60 b59 (H : Sep ok w w60 [.blk b21 25 [.int .i64 a0.W, .int .i64 a0.H, .slice A1 a0.Color.length cp2, .slice A5 a0.Depth.length cp6, .slice A9 a0.Item.length cp10, .slice A13 a0.Tri.length cp14], .blk b23 28 [.slice A17 a1.Levels.length cp18], .blk b25 32 [.int .i64 a2.Rect.X0, .int .i64 a2.Rect.Y0, .int .i64 a2.Rect.X1, .int .i64 a2.Rect.Y1, .int .i64 a2.D], .blk b57 25 [.int .i64 0, .int .i64 0, .slice none 0 0, .slice none 0 0, .slice none 0 0, .slice none 0 0], .hole, .blk b59 28 [.slice none 0 0]] [RE.rd k_Ar4_Int A1 cp2 a0.Color, RE.rd kInt A5 cp6 a0.Depth, RE.rd kInt A9 cp10 a0.Item, RE.rd kInt A13 cp14 a0.Tri, RE.rd k_Level A17 cp18 a1.Levels, RE.rd k_Ar4_Int A39 cp40 v37.Color, RE.rd kInt A42 cp43 v37.Depth, RE.rd kInt A45 cp46 v37.Item, RE.rd kInt A48 cp49 v37.Tri, RE.rd k_Level A54 cp55 v52.Levels]) => ⟨(Sep.takeR (Sep.takeL H 3) 5), ?_⟩)
       exact hJ1_3_4_5 _ _ ⟨A39, cp40, A42, cp43, A45, cp46, A48, cp49, A54, cp55, b57, b59, ⟨rfl, rfl, rfl, rfl, rfl, rfl, rfl, trivial⟩, (H).pickL [0, 1, 2, 3, 5] (by decide)⟩
      exact PRT_stop
    ·show ∀ r w, _ → _
     rintro r' w' ⟨A39, cp40, A42, cp43, A45, cp46, A48, cp49, A54, cp55, b57, b59, hA, H⟩
     obtain ⟨r132, rfl⟩ := regen _ hA; clear hA
     obtain ⟨w133, rfl⟩ : ∃ W : World, W = w' := ⟨_, rfl⟩
     refine PRT_all ?_
     refine PRT_br (by rfl) ?_ ?_
     ·show OpR _ _ _ _ _ _ _
      refine O_store (i := 3) (off := 0) (by exact wn0 rfl) (by rfl) (by rfl) H (by rfl) (vs := [.int .i64 v37.W, .int .i64 v37.H, .slice A39 v37.Color.length cp40, .slice A42 v37.Depth.length cp43, .slice A45 v37.Item.length cp46, .slice A48 v37.Tri.length cp49]) (by rfl) sz25 (by rfl) (by rfl) (by rfl) (fun w61 (H : Sep ok w w61 [.blk b21 25 [.int .i64 a0.W, .int .i64 a0.H, .slice A1 a0.Color.length cp2, .slice A5 a0.Depth.length cp6, .slice A9 a0.Item.length cp10, .slice A13 a0.Tri.length cp14], .blk b23 28 [.slice A17 a1.Levels.length cp18], .blk b25 32 [.int .i64 a2.Rect.X0, .int .i64 a2.Rect.Y0, .int .i64 a2.Rect.X1, .int .i64 a2.Rect.Y1, .int .i64 a2.D], .blk b57 25 [.int .i64 v37.W, .int .i64 v37.H, .slice A39 v37.Color.length cp40, .slice A42 v37.Depth.length cp43, .slice A45 v37.Item.length cp46, .slice A48 v37.Tri.length cp49], .blk b59 28 [.slice none 0 0]] [RE.rd k_Ar4_Int A1 cp2 a0.Color, RE.rd kInt A5 cp6 a0.Depth, RE.rd kInt A9 cp10 a0.Item, RE.rd kInt A13 cp14 a0.Tri, RE.rd k_Level A17 cp18 a1.Levels, RE.rd k_Ar4_Int A39 cp40 v37.Color, RE.rd kInt A42 cp43 v37.Depth, RE.rd kInt A45 cp46 v37.Item, RE.rd kInt A48 cp49 v37.Tri, RE.rd k_Level A54 cp55 v52.Levels]) => ⟨(Sep.takeR (Sep.takeL H 3) 5), ?_⟩)
      exact hJ1_3_4_5_6 _ _ ⟨A39, cp40, A42, cp43, A45, cp46, A48, cp49, A54, cp55, b57, b59, ⟨rfl, rfl, rfl, rfl, rfl, rfl, trivial⟩, H⟩
     exact PRT_stop
   ·show ∀ r w, _ → _
    rintro r' w' ⟨A39, cp40, A42, cp43, A45, cp46, A48, cp49, A54, cp55, b57, b59, hA, H⟩
    obtain ⟨r134, rfl⟩ := regen _ hA; clear hA
    obtain ⟨w135, rfl⟩ : ∃ W : World, W = w' := ⟨_, rfl⟩
    refine PRT_lin ?_
    refine PR_tail (by rfl) (O_store (i := 4) (off := 0) (by exact wn0 rfl) (by rfl) (by rfl) H (by rfl) (vs := [.slice A54 v52.Levels.length cp55]) (by rfl) sz28 (by rfl) (by rfl) (by rfl) (fun w136 (H : Sep ok w w136 [.blk b21 25 [.int .i64 a0.W, .int .i64 a0.H, .slice A1 a0.Color.length cp2, .slice A5 a0.Depth.length cp6, .slice A9 a0.Item.length cp10, .slice A13 a0.Tri.length cp14], .blk b23 28 [.slice A17 a1.Levels.length cp18], .blk b25 32 [.int .i64 a2.Rect.X0, .int .i64 a2.Rect.Y0, .int .i64 a2.Rect.X1, .int .i64 a2.Rect.Y1, .int .i64 a2.D], .blk b57 25 [.int .i64 v37.W, .int .i64 v37.H, .slice A39 v37.Color.length cp40, .slice A42 v37.Depth.length cp43, .slice A45 v37.Item.length cp46, .slice A48 v37.Tri.length cp49], .blk b59 28 [.slice A54 v52.Levels.length cp55]] [RE.rd k_Ar4_Int A1 cp2 a0.Color, RE.rd kInt A5 cp6 a0.Depth, RE.rd kInt A9 cp10 a0.Item, RE.rd kInt A13 cp14 a0.Tri, RE.rd k_Level A17 cp18 a1.Levels, RE.rd k_Ar4_Int A39 cp40 v37.Color, RE.rd kInt A42 cp43 v37.Depth, RE.rd kInt A45 cp46 v37.Item, RE.rd kInt A48 cp49 v37.Tri, RE.rd k_Level A54 cp55 v52.Levels]) => ?_))
    refine PR_nil ?_
    refine W_seq ?_
    refine W_region ?_
    refine RL_pure (by exact wn0 rfl) (by rfl) (by rfl) (x_loadA (j := 0) (vs := [.int .i64 v37.W, .int .i64 v37.H, .slice A39 v37.Color.length cp40, .slice A42 v37.Depth.length cp43, .slice A45 v37.Item.length cp46, .slice A48 v37.Tri.length cp49]) ag25 (by rfl) (H.cells (i := 3) (by rfl)) (by rfl) (by rfl)) ?_
    obtain ⟨v138, hv137, hm⟩ := bind_some hm
    have H : Sep ok w w136 [.blk b21 25 [.int .i64 a0.W, .int .i64 a0.H, .slice A1 a0.Color.length cp2, .slice A5 a0.Depth.length cp6, .slice A9 a0.Item.length cp10, .slice A13 a0.Tri.length cp14], .blk b23 28 [.slice A17 a1.Levels.length cp18], .blk b25 32 [.int .i64 a2.Rect.X0, .int .i64 a2.Rect.Y0, .int .i64 a2.Rect.X1, .int .i64 a2.Rect.Y1, .int .i64 a2.D], .blk b57 25 [.int .i64 v37.W, .int .i64 v37.H, .slice A39 v37.Color.length cp40, .slice A42 v37.Depth.length cp43, .slice A45 v37.Item.length cp46, .slice A48 v37.Tri.length cp49], .blk b59 28 [.slice A54 v52.Levels.length cp55]] [RE.rd k_Ar4_Int A1 cp2 a0.Color, RE.rd kInt A5 cp6 a0.Depth, RE.rd kInt A9 cp10 a0.Item, RE.rd kInt A13 cp14 a0.Tri, RE.rd k_Level A17 cp18 a1.Levels, RE.rd k_Ar4_Int A39 cp40 v37.Color, RE.rd kInt A42 cp43 v37.Depth, RE.rd kInt A45 cp46 v37.Item, RE.rd kInt A48 cp49 v37.Tri, RE.rd k_Level A54 cp55 v52.Levels, RE.lt w136.heap.size k_Ar4_Int A1 cp2 a0.Color, RE.lt w136.heap.size kInt A5 cp6 a0.Depth, RE.lt w136.heap.size kInt A9 cp10 a0.Item, RE.lt w136.heap.size kInt A13 cp14 a0.Tri, RE.lt w136.heap.size k_Level A17 cp18 a1.Levels, RE.lt w136.heap.size k_Ar4_Int A39 cp40 v37.Color, RE.lt w136.heap.size kInt A42 cp43 v37.Depth, RE.lt w136.heap.size kInt A45 cp46 v37.Item, RE.lt w136.heap.size kInt A48 cp49 v37.Tri, RE.lt w136.heap.size k_Level A54 cp55 v52.Levels] := ((((((((((H.alsoLt (i := 0) (by rfl)).alsoLt (i := 1) (by rfl)).alsoLt (i := 2) (by rfl)).alsoLt (i := 3) (by rfl)).alsoLt (i := 4) (by rfl)).alsoLt (i := 5) (by rfl)).alsoLt (i := 6) (by rfl)).alsoLt (i := 7) (by rfl)).alsoLt (i := 8) (by rfl)).alsoLt (i := 9) (by rfl))
    have hm0 : w.heap.size ≤ w136.heap.size := H.le
    refine RL_cons (O_call (by exact wn0 rfl) (by rfl) (by rfl) (x_callL (by rfl) (args := [.agg #[.int .i64 v37.W, .int .i64 v37.H, .slice A39 v37.Color.length cp40, .slice A42 v37.Depth.length cp43, .slice A45 v37.Item.length cp46, .slice A48 v37.Tri.length cp49]]) (by rfl) (cf15 _ _)) (c15n (okS ok w [.blk b21 25 [.int .i64 a0.W, .int .i64 a0.H, .slice A1 a0.Color.length cp2, .slice A5 a0.Depth.length cp6, .slice A9 a0.Item.length cp10, .slice A13 a0.Tri.length cp14], .blk b23 28 [.slice A17 a1.Levels.length cp18], .blk b25 32 [.int .i64 a2.Rect.X0, .int .i64 a2.Rect.Y0, .int .i64 a2.Rect.X1, .int .i64 a2.Rect.Y1, .int .i64 a2.D], .blk b57 25 [.int .i64 v37.W, .int .i64 v37.H, .slice A39 v37.Color.length cp40, .slice A42 v37.Depth.length cp43, .slice A45 v37.Item.length cp46, .slice A48 v37.Tri.length cp49], .blk b59 28 [.slice A54 v52.Levels.length cp55]]) (fun _ h => h) K w136 v37 A39 cp40 A42 cp43 A45 cp46 A48 cp49 (H.rd (i := 5) (by rfl)) (H.rd (i := 6) (by rfl)) (H.rd (i := 7) (by rfl)) (H.rd (i := 8) (by rfl)) v138 hv137) ?_)
    rintro e w139 ⟨A140, cp141, rfl, H2⟩
    have H : Sep ok w w139 [.blk b21 25 [.int .i64 a0.W, .int .i64 a0.H, .slice A1 a0.Color.length cp2, .slice A5 a0.Depth.length cp6, .slice A9 a0.Item.length cp10, .slice A13 a0.Tri.length cp14], .blk b23 28 [.slice A17 a1.Levels.length cp18], .blk b25 32 [.int .i64 a2.Rect.X0, .int .i64 a2.Rect.Y0, .int .i64 a2.Rect.X1, .int .i64 a2.Rect.Y1, .int .i64 a2.D], .blk b57 25 [.int .i64 v37.W, .int .i64 v37.H, .slice A39 v37.Color.length cp40, .slice A42 v37.Depth.length cp43, .slice A45 v37.Item.length cp46, .slice A48 v37.Tri.length cp49], .blk b59 28 [.slice A54 v52.Levels.length cp55]] [RE.rd k_Ar4_Int A1 cp2 a0.Color, RE.rd kInt A5 cp6 a0.Depth, RE.rd kInt A9 cp10 a0.Item, RE.rd kInt A13 cp14 a0.Tri, RE.rd k_Level A17 cp18 a1.Levels, RE.rd k_Ar4_Int A39 cp40 v37.Color, RE.rd kInt A42 cp43 v37.Depth, RE.rd kInt A45 cp46 v37.Item, RE.rd kInt A48 cp49 v37.Tri, RE.rd k_Level A54 cp55 v52.Levels, RE.lt w136.heap.size k_Ar4_Int A1 cp2 a0.Color, RE.lt w136.heap.size kInt A5 cp6 a0.Depth, RE.lt w136.heap.size kInt A9 cp10 a0.Item, RE.lt w136.heap.size kInt A13 cp14 a0.Tri, RE.lt w136.heap.size k_Level A17 cp18 a1.Levels, RE.lt w136.heap.size k_Ar4_Int A39 cp40 v37.Color, RE.lt w136.heap.size kInt A42 cp43 v37.Depth, RE.lt w136.heap.size kInt A45 cp46 v37.Item, RE.lt w136.heap.size kInt A48 cp49 v37.Tri, RE.lt w136.heap.size k_Level A54 cp55 v52.Levels, RE.fr w136.heap.size k_Level A140 cp141 v138.1.Levels] := H.call H2
    clear H2
    have H : Sep ok w w139 [.blk b21 25 [.int .i64 a0.W, .int .i64 a0.H, .slice A1 a0.Color.length cp2, .slice A5 a0.Depth.length cp6, .slice A9 a0.Item.length cp10, .slice A13 a0.Tri.length cp14], .blk b23 28 [.slice A17 a1.Levels.length cp18], .blk b25 32 [.int .i64 a2.Rect.X0, .int .i64 a2.Rect.Y0, .int .i64 a2.Rect.X1, .int .i64 a2.Rect.Y1, .int .i64 a2.D], .blk b57 25 [.int .i64 v37.W, .int .i64 v37.H, .slice A39 v37.Color.length cp40, .slice A42 v37.Depth.length cp43, .slice A45 v37.Item.length cp46, .slice A48 v37.Tri.length cp49], .blk b59 28 [.slice A54 v52.Levels.length cp55]] [RE.rd k_Ar4_Int A1 cp2 a0.Color, RE.rd kInt A5 cp6 a0.Depth, RE.rd kInt A9 cp10 a0.Item, RE.rd kInt A13 cp14 a0.Tri, RE.rd k_Level A17 cp18 a1.Levels, RE.rd k_Ar4_Int A39 cp40 v37.Color, RE.rd kInt A42 cp43 v37.Depth, RE.rd kInt A45 cp46 v37.Item, RE.rd kInt A48 cp49 v37.Tri, RE.rd k_Level A54 cp55 v52.Levels, RE.lt w136.heap.size k_Ar4_Int A1 cp2 a0.Color, RE.lt w136.heap.size kInt A5 cp6 a0.Depth, RE.lt w136.heap.size kInt A9 cp10 a0.Item, RE.lt w136.heap.size kInt A13 cp14 a0.Tri, RE.lt w136.heap.size k_Level A17 cp18 a1.Levels, RE.lt w136.heap.size k_Ar4_Int A39 cp40 v37.Color, RE.lt w136.heap.size kInt A42 cp43 v37.Depth, RE.lt w136.heap.size kInt A45 cp46 v37.Item, RE.lt w136.heap.size kInt A48 cp49 v37.Tri, RE.lt w136.heap.size k_Level A54 cp55 v52.Levels, RE.fr w136.heap.size k_Level A140 cp141 v138.1.Levels, RE.rd k_Level A140 cp141 v138.1.Levels] := (H.alsoRd (i := 20) (by rfl))
    refine ⟨_, rfl, ?_⟩
    show RL _ _ _ _ _ _ _
    refine RL_pure (by exact wn0 rfl) (by rfl) (by rfl) (x_move (v := tup [.agg #[.slice A140 v138.1.Levels.length cp141], .int .i64 v138.2]) (by rfl)) ?_
    refine RL_pure (by exact wn0 rfl) (by rfl) (by rfl) (x_extract (v := .agg #[.slice A140 v138.1.Levels.length cp141]) (by rfl) (by rfl)) ?_
    refine RL_pure (by exact wn0 rfl) (by rfl) (by rfl) (x_extract (v := .int .i64 v138.2) (by rfl) (by rfl)) ?_
    refine RL_cons (O_alloc (by exact wn0 rfl) (by rfl) ze28 (by rfl) H (fun w144 b143 (H : Sep ok w w144 [.blk b21 25 [.int .i64 a0.W, .int .i64 a0.H, .slice A1 a0.Color.length cp2, .slice A5 a0.Depth.length cp6, .slice A9 a0.Item.length cp10, .slice A13 a0.Tri.length cp14], .blk b23 28 [.slice A17 a1.Levels.length cp18], .blk b25 32 [.int .i64 a2.Rect.X0, .int .i64 a2.Rect.Y0, .int .i64 a2.Rect.X1, .int .i64 a2.Rect.Y1, .int .i64 a2.D], .blk b57 25 [.int .i64 v37.W, .int .i64 v37.H, .slice A39 v37.Color.length cp40, .slice A42 v37.Depth.length cp43, .slice A45 v37.Item.length cp46, .slice A48 v37.Tri.length cp49], .blk b59 28 [.slice A54 v52.Levels.length cp55], .blk b143 28 [.slice none 0 0]] [RE.rd k_Ar4_Int A1 cp2 a0.Color, RE.rd kInt A5 cp6 a0.Depth, RE.rd kInt A9 cp10 a0.Item, RE.rd kInt A13 cp14 a0.Tri, RE.rd k_Level A17 cp18 a1.Levels, RE.rd k_Ar4_Int A39 cp40 v37.Color, RE.rd kInt A42 cp43 v37.Depth, RE.rd kInt A45 cp46 v37.Item, RE.rd kInt A48 cp49 v37.Tri, RE.rd k_Level A54 cp55 v52.Levels, RE.lt w136.heap.size k_Ar4_Int A1 cp2 a0.Color, RE.lt w136.heap.size kInt A5 cp6 a0.Depth, RE.lt w136.heap.size kInt A9 cp10 a0.Item, RE.lt w136.heap.size kInt A13 cp14 a0.Tri, RE.lt w136.heap.size k_Level A17 cp18 a1.Levels, RE.lt w136.heap.size k_Ar4_Int A39 cp40 v37.Color, RE.lt w136.heap.size kInt A42 cp43 v37.Depth, RE.lt w136.heap.size kInt A45 cp46 v37.Item, RE.lt w136.heap.size kInt A48 cp49 v37.Tri, RE.lt w136.heap.size k_Level A54 cp55 v52.Levels, RE.fr w136.heap.size k_Level A140 cp141 v138.1.Levels, RE.rd k_Level A140 cp141 v138.1.Levels]) => ?_))
    refine RL_cons (O_store (i := 5) (off := 0) (by exact wn0 rfl) (by rfl) (by rfl) H (by rfl) (vs := [.slice A140 v138.1.Levels.length cp141]) (by rfl) sz28 (by rfl) (by rfl) (by rfl) (fun w145 (H : Sep ok w w145 [.blk b21 25 [.int .i64 a0.W, .int .i64 a0.H, .slice A1 a0.Color.length cp2, .slice A5 a0.Depth.length cp6, .slice A9 a0.Item.length cp10, .slice A13 a0.Tri.length cp14], .blk b23 28 [.slice A17 a1.Levels.length cp18], .blk b25 32 [.int .i64 a2.Rect.X0, .int .i64 a2.Rect.Y0, .int .i64 a2.Rect.X1, .int .i64 a2.Rect.Y1, .int .i64 a2.D], .blk b57 25 [.int .i64 v37.W, .int .i64 v37.H, .slice A39 v37.Color.length cp40, .slice A42 v37.Depth.length cp43, .slice A45 v37.Item.length cp46, .slice A48 v37.Tri.length cp49], .blk b59 28 [.slice A54 v52.Levels.length cp55], .blk b143 28 [.slice A140 v138.1.Levels.length cp141]] [RE.rd k_Ar4_Int A1 cp2 a0.Color, RE.rd kInt A5 cp6 a0.Depth, RE.rd kInt A9 cp10 a0.Item, RE.rd kInt A13 cp14 a0.Tri, RE.rd k_Level A17 cp18 a1.Levels, RE.rd k_Ar4_Int A39 cp40 v37.Color, RE.rd kInt A42 cp43 v37.Depth, RE.rd kInt A45 cp46 v37.Item, RE.rd kInt A48 cp49 v37.Tri, RE.rd k_Level A54 cp55 v52.Levels, RE.lt w136.heap.size k_Ar4_Int A1 cp2 a0.Color, RE.lt w136.heap.size kInt A5 cp6 a0.Depth, RE.lt w136.heap.size kInt A9 cp10 a0.Item, RE.lt w136.heap.size kInt A13 cp14 a0.Tri, RE.lt w136.heap.size k_Level A17 cp18 a1.Levels, RE.lt w136.heap.size k_Ar4_Int A39 cp40 v37.Color, RE.lt w136.heap.size kInt A42 cp43 v37.Depth, RE.lt w136.heap.size kInt A45 cp46 v37.Item, RE.lt w136.heap.size kInt A48 cp49 v37.Tri, RE.lt w136.heap.size k_Level A54 cp55 v52.Levels, RE.fr w136.heap.size k_Level A140 cp141 v138.1.Levels, RE.rd k_Level A140 cp141 v138.1.Levels]) => ?_))
    refine RL_pure (by exact wn0 rfl) (by rfl) (by rfl) (x_assign (v := .int .i64 v138.2) (by rfl)) ?_
    refine RL_nil ?_
    refine W_seq ?_
    refine W_region ?_
    refine RL_pure (by exact wn0 rfl) (by rfl) (by rfl) (x_loadA (j := 0) (vs := [.int .i64 a0.W, .int .i64 a0.H, .slice A1 a0.Color.length cp2, .slice A5 a0.Depth.length cp6, .slice A9 a0.Item.length cp10, .slice A13 a0.Tri.length cp14]) ag25 (by rfl) (H.cells (i := 0) (by rfl)) (by rfl) (by rfl)) ?_
    obtain ⟨v147, hv146, hm⟩ := bind_some hm
    refine RL_cons (O_call (by exact wn0 rfl) (by rfl) (by rfl) (x_callL (by rfl) (args := [.agg #[.int .i64 a0.W, .int .i64 a0.H, .slice A1 a0.Color.length cp2, .slice A5 a0.Depth.length cp6, .slice A9 a0.Item.length cp10, .slice A13 a0.Tri.length cp14]]) (by rfl) (cf16 _ _)) (c16 (okS ok w [.blk b21 25 [.int .i64 a0.W, .int .i64 a0.H, .slice A1 a0.Color.length cp2, .slice A5 a0.Depth.length cp6, .slice A9 a0.Item.length cp10, .slice A13 a0.Tri.length cp14], .blk b23 28 [.slice A17 a1.Levels.length cp18], .blk b25 32 [.int .i64 a2.Rect.X0, .int .i64 a2.Rect.Y0, .int .i64 a2.Rect.X1, .int .i64 a2.Rect.Y1, .int .i64 a2.D], .blk b57 25 [.int .i64 v37.W, .int .i64 v37.H, .slice A39 v37.Color.length cp40, .slice A42 v37.Depth.length cp43, .slice A45 v37.Item.length cp46, .slice A48 v37.Tri.length cp49], .blk b59 28 [.slice A54 v52.Levels.length cp55], .blk b143 28 [.slice A140 v138.1.Levels.length cp141]]) K w145 a0 A1 cp2 A5 cp6 A9 cp10 A13 cp14 (H.rd (i := 0) (by rfl)) (H.rd (i := 1) (by rfl)) (H.rd (i := 2) (by rfl)) (H.rd (i := 3) (by rfl)) v147 hv146) ?_)
    rintro e w148 ⟨A149, cp150, rfl, H2⟩
    have H : Sep ok w w148 [.blk b21 25 [.int .i64 a0.W, .int .i64 a0.H, .slice A1 a0.Color.length cp2, .slice A5 a0.Depth.length cp6, .slice A9 a0.Item.length cp10, .slice A13 a0.Tri.length cp14], .blk b23 28 [.slice A17 a1.Levels.length cp18], .blk b25 32 [.int .i64 a2.Rect.X0, .int .i64 a2.Rect.Y0, .int .i64 a2.Rect.X1, .int .i64 a2.Rect.Y1, .int .i64 a2.D], .blk b57 25 [.int .i64 v37.W, .int .i64 v37.H, .slice A39 v37.Color.length cp40, .slice A42 v37.Depth.length cp43, .slice A45 v37.Item.length cp46, .slice A48 v37.Tri.length cp49], .blk b59 28 [.slice A54 v52.Levels.length cp55], .blk b143 28 [.slice A140 v138.1.Levels.length cp141]] [RE.rd k_Ar4_Int A1 cp2 a0.Color, RE.rd kInt A5 cp6 a0.Depth, RE.rd kInt A9 cp10 a0.Item, RE.rd kInt A13 cp14 a0.Tri, RE.rd k_Level A17 cp18 a1.Levels, RE.rd k_Ar4_Int A39 cp40 v37.Color, RE.rd kInt A42 cp43 v37.Depth, RE.rd kInt A45 cp46 v37.Item, RE.rd kInt A48 cp49 v37.Tri, RE.rd k_Level A54 cp55 v52.Levels, RE.lt w136.heap.size k_Ar4_Int A1 cp2 a0.Color, RE.lt w136.heap.size kInt A5 cp6 a0.Depth, RE.lt w136.heap.size kInt A9 cp10 a0.Item, RE.lt w136.heap.size kInt A13 cp14 a0.Tri, RE.lt w136.heap.size k_Level A17 cp18 a1.Levels, RE.lt w136.heap.size k_Ar4_Int A39 cp40 v37.Color, RE.lt w136.heap.size kInt A42 cp43 v37.Depth, RE.lt w136.heap.size kInt A45 cp46 v37.Item, RE.lt w136.heap.size kInt A48 cp49 v37.Tri, RE.lt w136.heap.size k_Level A54 cp55 v52.Levels, RE.fr w136.heap.size k_Level A140 cp141 v138.1.Levels, RE.rd k_Level A140 cp141 v138.1.Levels, RE.rd k_Level A149 cp150 v147.1.Levels] := H.call H2
    clear H2
    refine ⟨_, rfl, ?_⟩
    show RL _ _ _ _ _ _ _
    refine RL_pure (by exact wn0 rfl) (by rfl) (by rfl) (x_move (v := tup [.agg #[.slice A149 v147.1.Levels.length cp150], .int .i64 v147.2]) (by rfl)) ?_
    refine RL_pure (by exact wn0 rfl) (by rfl) (by rfl) (x_extract (v := .agg #[.slice A149 v147.1.Levels.length cp150]) (by rfl) (by rfl)) ?_
    refine RL_pure (by exact wn0 rfl) (by rfl) (by rfl) (x_extract (v := .int .i64 v147.2) (by rfl) (by rfl)) ?_
    refine RL_cons (O_alloc (by exact wn0 rfl) (by rfl) ze28 (by rfl) H (fun w153 b152 (H : Sep ok w w153 [.blk b21 25 [.int .i64 a0.W, .int .i64 a0.H, .slice A1 a0.Color.length cp2, .slice A5 a0.Depth.length cp6, .slice A9 a0.Item.length cp10, .slice A13 a0.Tri.length cp14], .blk b23 28 [.slice A17 a1.Levels.length cp18], .blk b25 32 [.int .i64 a2.Rect.X0, .int .i64 a2.Rect.Y0, .int .i64 a2.Rect.X1, .int .i64 a2.Rect.Y1, .int .i64 a2.D], .blk b57 25 [.int .i64 v37.W, .int .i64 v37.H, .slice A39 v37.Color.length cp40, .slice A42 v37.Depth.length cp43, .slice A45 v37.Item.length cp46, .slice A48 v37.Tri.length cp49], .blk b59 28 [.slice A54 v52.Levels.length cp55], .blk b143 28 [.slice A140 v138.1.Levels.length cp141], .blk b152 28 [.slice none 0 0]] [RE.rd k_Ar4_Int A1 cp2 a0.Color, RE.rd kInt A5 cp6 a0.Depth, RE.rd kInt A9 cp10 a0.Item, RE.rd kInt A13 cp14 a0.Tri, RE.rd k_Level A17 cp18 a1.Levels, RE.rd k_Ar4_Int A39 cp40 v37.Color, RE.rd kInt A42 cp43 v37.Depth, RE.rd kInt A45 cp46 v37.Item, RE.rd kInt A48 cp49 v37.Tri, RE.rd k_Level A54 cp55 v52.Levels, RE.lt w136.heap.size k_Ar4_Int A1 cp2 a0.Color, RE.lt w136.heap.size kInt A5 cp6 a0.Depth, RE.lt w136.heap.size kInt A9 cp10 a0.Item, RE.lt w136.heap.size kInt A13 cp14 a0.Tri, RE.lt w136.heap.size k_Level A17 cp18 a1.Levels, RE.lt w136.heap.size k_Ar4_Int A39 cp40 v37.Color, RE.lt w136.heap.size kInt A42 cp43 v37.Depth, RE.lt w136.heap.size kInt A45 cp46 v37.Item, RE.lt w136.heap.size kInt A48 cp49 v37.Tri, RE.lt w136.heap.size k_Level A54 cp55 v52.Levels, RE.fr w136.heap.size k_Level A140 cp141 v138.1.Levels, RE.rd k_Level A140 cp141 v138.1.Levels, RE.rd k_Level A149 cp150 v147.1.Levels]) => ?_))
    refine RL_cons (O_store (i := 6) (off := 0) (by exact wn0 rfl) (by rfl) (by rfl) H (by rfl) (vs := [.slice A149 v147.1.Levels.length cp150]) (by rfl) sz28 (by rfl) (by rfl) (by rfl) (fun w154 (H : Sep ok w w154 [.blk b21 25 [.int .i64 a0.W, .int .i64 a0.H, .slice A1 a0.Color.length cp2, .slice A5 a0.Depth.length cp6, .slice A9 a0.Item.length cp10, .slice A13 a0.Tri.length cp14], .blk b23 28 [.slice A17 a1.Levels.length cp18], .blk b25 32 [.int .i64 a2.Rect.X0, .int .i64 a2.Rect.Y0, .int .i64 a2.Rect.X1, .int .i64 a2.Rect.Y1, .int .i64 a2.D], .blk b57 25 [.int .i64 v37.W, .int .i64 v37.H, .slice A39 v37.Color.length cp40, .slice A42 v37.Depth.length cp43, .slice A45 v37.Item.length cp46, .slice A48 v37.Tri.length cp49], .blk b59 28 [.slice A54 v52.Levels.length cp55], .blk b143 28 [.slice A140 v138.1.Levels.length cp141], .blk b152 28 [.slice A149 v147.1.Levels.length cp150]] [RE.rd k_Ar4_Int A1 cp2 a0.Color, RE.rd kInt A5 cp6 a0.Depth, RE.rd kInt A9 cp10 a0.Item, RE.rd kInt A13 cp14 a0.Tri, RE.rd k_Level A17 cp18 a1.Levels, RE.rd k_Ar4_Int A39 cp40 v37.Color, RE.rd kInt A42 cp43 v37.Depth, RE.rd kInt A45 cp46 v37.Item, RE.rd kInt A48 cp49 v37.Tri, RE.rd k_Level A54 cp55 v52.Levels, RE.lt w136.heap.size k_Ar4_Int A1 cp2 a0.Color, RE.lt w136.heap.size kInt A5 cp6 a0.Depth, RE.lt w136.heap.size kInt A9 cp10 a0.Item, RE.lt w136.heap.size kInt A13 cp14 a0.Tri, RE.lt w136.heap.size k_Level A17 cp18 a1.Levels, RE.lt w136.heap.size k_Ar4_Int A39 cp40 v37.Color, RE.lt w136.heap.size kInt A42 cp43 v37.Depth, RE.lt w136.heap.size kInt A45 cp46 v37.Item, RE.lt w136.heap.size kInt A48 cp49 v37.Tri, RE.lt w136.heap.size k_Level A54 cp55 v52.Levels, RE.fr w136.heap.size k_Level A140 cp141 v138.1.Levels, RE.rd k_Level A140 cp141 v138.1.Levels, RE.rd k_Level A149 cp150 v147.1.Levels]) => ?_))
    refine RL_pure (by exact wn0 rfl) (by rfl) (by rfl) (x_assign (v := .int .i64 v147.2) (by rfl)) ?_
    refine RL_nil ?_
    refine W_seq ?_
    refine W_region ?_
    refine RL_pure (by exact wn0 rfl) (by rfl) (by rfl) (x_loadA (j := 0) (vs := [.slice A54 v52.Levels.length cp55]) ag28 (by rfl) (H.cells (i := 4) (by rfl)) (by rfl) (by rfl)) ?_
    refine RL_pure (by exact wn0 rfl) (by rfl) (by rfl) (x_fieldAddr fo32_0 (by rfl)) ?_
    refine RL_pure (by exact wn0 rfl) (by rfl) (by rfl) (x_loadA (j := 0) (vs := [.int .i64 a2.Rect.X0, .int .i64 a2.Rect.Y0, .int .i64 a2.Rect.X1, .int .i64 a2.Rect.Y1]) ag30 (by rfl) (H.cells (i := 2) (by rfl)) (by rfl) (by rfl)) ?_
    obtain ⟨v156, hv155, hm⟩ := bind_some hm
    refine RL_cons (O_call (by exact wn0 rfl) (by rfl) (by rfl) (x_callL (by rfl) (args := [.agg #[.slice A54 v52.Levels.length cp55], .agg #[.int .i64 a2.Rect.X0, .int .i64 a2.Rect.Y0, .int .i64 a2.Rect.X1, .int .i64 a2.Rect.Y1]]) (by rfl) (cf17 _ _)) (c17 okT K w154 v52 A54 cp55 a2.Rect (H.rd (i := 9) (by rfl)).any v156 hv155) ?_)
    rintro e w157 ⟨rfl, H2⟩
    have H : Sep ok w w157 [.blk b21 25 [.int .i64 a0.W, .int .i64 a0.H, .slice A1 a0.Color.length cp2, .slice A5 a0.Depth.length cp6, .slice A9 a0.Item.length cp10, .slice A13 a0.Tri.length cp14], .blk b23 28 [.slice A17 a1.Levels.length cp18], .blk b25 32 [.int .i64 a2.Rect.X0, .int .i64 a2.Rect.Y0, .int .i64 a2.Rect.X1, .int .i64 a2.Rect.Y1, .int .i64 a2.D], .blk b57 25 [.int .i64 v37.W, .int .i64 v37.H, .slice A39 v37.Color.length cp40, .slice A42 v37.Depth.length cp43, .slice A45 v37.Item.length cp46, .slice A48 v37.Tri.length cp49], .blk b59 28 [.slice A54 v52.Levels.length cp55], .blk b143 28 [.slice A140 v138.1.Levels.length cp141], .blk b152 28 [.slice A149 v147.1.Levels.length cp150]] [RE.rd k_Ar4_Int A1 cp2 a0.Color, RE.rd kInt A5 cp6 a0.Depth, RE.rd kInt A9 cp10 a0.Item, RE.rd kInt A13 cp14 a0.Tri, RE.rd k_Level A17 cp18 a1.Levels, RE.rd k_Ar4_Int A39 cp40 v37.Color, RE.rd kInt A42 cp43 v37.Depth, RE.rd kInt A45 cp46 v37.Item, RE.rd kInt A48 cp49 v37.Tri, RE.rd k_Level A54 cp55 v52.Levels, RE.lt w136.heap.size k_Ar4_Int A1 cp2 a0.Color, RE.lt w136.heap.size kInt A5 cp6 a0.Depth, RE.lt w136.heap.size kInt A9 cp10 a0.Item, RE.lt w136.heap.size kInt A13 cp14 a0.Tri, RE.lt w136.heap.size k_Level A17 cp18 a1.Levels, RE.lt w136.heap.size k_Ar4_Int A39 cp40 v37.Color, RE.lt w136.heap.size kInt A42 cp43 v37.Depth, RE.lt w136.heap.size kInt A45 cp46 v37.Item, RE.lt w136.heap.size kInt A48 cp49 v37.Tri, RE.lt w136.heap.size k_Level A54 cp55 v52.Levels, RE.fr w136.heap.size k_Level A140 cp141 v138.1.Levels, RE.rd k_Level A140 cp141 v138.1.Levels, RE.rd k_Level A149 cp150 v147.1.Levels] := H.below H2.base
    clear H2
    refine ⟨_, rfl, ?_⟩
    show RL _ _ _ _ _ _ _
    refine RL_pure (by exact wn0 rfl) (by rfl) (by rfl) (x_move (v := tup [.int .i64 v156.1, .int .i64 v156.2]) (by rfl)) ?_
    refine RL_pure (by exact wn0 rfl) (by rfl) (by rfl) (x_extract (v := .int .i64 v156.1) (by rfl) (by rfl)) ?_
    refine RL_pure (by exact wn0 rfl) (by rfl) (by rfl) (x_extract (v := .int .i64 v156.2) (by rfl) (by rfl)) ?_
    refine RL_pure (by exact wn0 rfl) (by rfl) (by rfl) (x_assign (v := .int .i64 v156.1) (by rfl)) ?_
    refine RL_pure (by exact wn0 rfl) (by rfl) (by rfl) (x_assign (v := .int .i64 v156.2) (by rfl)) ?_
    refine RL_nil ?_
    refine W_seq ?_
    refine W_region ?_
    refine RL_pure (by exact wn0 rfl) (by rfl) (by rfl) (x_loadA (j := 0) (vs := [.slice A17 a1.Levels.length cp18]) ag28 (by rfl) (H.cells (i := 1) (by rfl)) (by rfl) (by rfl)) ?_
    refine RL_pure (by exact wn0 rfl) (by rfl) (by rfl) (x_fieldAddr fo32_0 (by rfl)) ?_
    refine RL_pure (by exact wn0 rfl) (by rfl) (by rfl) (x_loadA (j := 0) (vs := [.int .i64 a2.Rect.X0, .int .i64 a2.Rect.Y0, .int .i64 a2.Rect.X1, .int .i64 a2.Rect.Y1]) ag30 (by rfl) (H.cells (i := 2) (by rfl)) (by rfl) (by rfl)) ?_
    obtain ⟨v159, hv158, hm⟩ := bind_some hm
    refine RL_cons (O_call (by exact wn0 rfl) (by rfl) (by rfl) (x_callL (by rfl) (args := [.agg #[.slice A17 a1.Levels.length cp18], .agg #[.int .i64 a2.Rect.X0, .int .i64 a2.Rect.Y0, .int .i64 a2.Rect.X1, .int .i64 a2.Rect.Y1]]) (by rfl) (cf18 _ _)) (c18 okT K w157 a1 A17 cp18 a2.Rect (H.rd (i := 4) (by rfl)).any v159 hv158) ?_)
    rintro e w160 ⟨rfl, H2⟩
    have H : Sep ok w w160 [.blk b21 25 [.int .i64 a0.W, .int .i64 a0.H, .slice A1 a0.Color.length cp2, .slice A5 a0.Depth.length cp6, .slice A9 a0.Item.length cp10, .slice A13 a0.Tri.length cp14], .blk b23 28 [.slice A17 a1.Levels.length cp18], .blk b25 32 [.int .i64 a2.Rect.X0, .int .i64 a2.Rect.Y0, .int .i64 a2.Rect.X1, .int .i64 a2.Rect.Y1, .int .i64 a2.D], .blk b57 25 [.int .i64 v37.W, .int .i64 v37.H, .slice A39 v37.Color.length cp40, .slice A42 v37.Depth.length cp43, .slice A45 v37.Item.length cp46, .slice A48 v37.Tri.length cp49], .blk b59 28 [.slice A54 v52.Levels.length cp55], .blk b143 28 [.slice A140 v138.1.Levels.length cp141], .blk b152 28 [.slice A149 v147.1.Levels.length cp150]] [RE.rd k_Ar4_Int A1 cp2 a0.Color, RE.rd kInt A5 cp6 a0.Depth, RE.rd kInt A9 cp10 a0.Item, RE.rd kInt A13 cp14 a0.Tri, RE.rd k_Level A17 cp18 a1.Levels, RE.rd k_Ar4_Int A39 cp40 v37.Color, RE.rd kInt A42 cp43 v37.Depth, RE.rd kInt A45 cp46 v37.Item, RE.rd kInt A48 cp49 v37.Tri, RE.rd k_Level A54 cp55 v52.Levels, RE.lt w136.heap.size k_Ar4_Int A1 cp2 a0.Color, RE.lt w136.heap.size kInt A5 cp6 a0.Depth, RE.lt w136.heap.size kInt A9 cp10 a0.Item, RE.lt w136.heap.size kInt A13 cp14 a0.Tri, RE.lt w136.heap.size k_Level A17 cp18 a1.Levels, RE.lt w136.heap.size k_Ar4_Int A39 cp40 v37.Color, RE.lt w136.heap.size kInt A42 cp43 v37.Depth, RE.lt w136.heap.size kInt A45 cp46 v37.Item, RE.lt w136.heap.size kInt A48 cp49 v37.Tri, RE.lt w136.heap.size k_Level A54 cp55 v52.Levels, RE.fr w136.heap.size k_Level A140 cp141 v138.1.Levels, RE.rd k_Level A140 cp141 v138.1.Levels, RE.rd k_Level A149 cp150 v147.1.Levels] := H.below H2.base
    clear H2
    refine ⟨_, rfl, ?_⟩
    show RL _ _ _ _ _ _ _
    refine RL_pure (by exact wn0 rfl) (by rfl) (by rfl) (x_move (v := tup [.int .i64 v159.1, .int .i64 v159.2]) (by rfl)) ?_
    refine RL_pure (by exact wn0 rfl) (by rfl) (by rfl) (x_extract (v := .int .i64 v159.1) (by rfl) (by rfl)) ?_
    refine RL_pure (by exact wn0 rfl) (by rfl) (by rfl) (x_extract (v := .int .i64 v159.2) (by rfl) (by rfl)) ?_
    refine RL_pure (by exact wn0 rfl) (by rfl) (by rfl) (x_assign (v := .int .i64 v159.1) (by rfl)) ?_
    refine RL_pure (by exact wn0 rfl) (by rfl) (by rfl) (x_assign (v := .int .i64 v159.2) (by rfl)) ?_
    refine RL_nil ?_
    refine W_seq ?_
    refine W_region ?_
    refine RL_pure (by exact wn0 rfl) (by rfl) (by rfl) (x_loadA (j := 0) (vs := [.slice A54 v52.Levels.length cp55]) ag28 (by rfl) (H.cells (i := 4) (by rfl)) (by rfl) (by rfl)) ?_
    refine RL_pure (by exact wn0 rfl) (by rfl) (by rfl) (x_loadA (j := 0) (vs := [.int .i64 a2.Rect.X0, .int .i64 a2.Rect.Y0, .int .i64 a2.Rect.X1, .int .i64 a2.Rect.Y1, .int .i64 a2.D]) ag32 (by rfl) (H.cells (i := 2) (by rfl)) (by rfl) (by rfl)) ?_
    obtain ⟨v162, hv161, hm⟩ := bind_some hm
    refine RL_cons (O_call (by exact wn0 rfl) (by rfl) (by rfl) (x_callL (by rfl) (args := [.agg #[.slice A54 v52.Levels.length cp55], .agg #[.int .i64 a2.Rect.X0, .int .i64 a2.Rect.Y0, .int .i64 a2.Rect.X1, .int .i64 a2.Rect.Y1, .int .i64 a2.D]]) (by rfl) (cf19 _ _)) (c19 okT K w160 v52 A54 cp55 a2 (H.rd (i := 9) (by rfl)).any v162 hv161) ?_)
    rintro e w163 ⟨rfl, H2⟩
    have H : Sep ok w w163 [.blk b21 25 [.int .i64 a0.W, .int .i64 a0.H, .slice A1 a0.Color.length cp2, .slice A5 a0.Depth.length cp6, .slice A9 a0.Item.length cp10, .slice A13 a0.Tri.length cp14], .blk b23 28 [.slice A17 a1.Levels.length cp18], .blk b25 32 [.int .i64 a2.Rect.X0, .int .i64 a2.Rect.Y0, .int .i64 a2.Rect.X1, .int .i64 a2.Rect.Y1, .int .i64 a2.D], .blk b57 25 [.int .i64 v37.W, .int .i64 v37.H, .slice A39 v37.Color.length cp40, .slice A42 v37.Depth.length cp43, .slice A45 v37.Item.length cp46, .slice A48 v37.Tri.length cp49], .blk b59 28 [.slice A54 v52.Levels.length cp55], .blk b143 28 [.slice A140 v138.1.Levels.length cp141], .blk b152 28 [.slice A149 v147.1.Levels.length cp150]] [RE.rd k_Ar4_Int A1 cp2 a0.Color, RE.rd kInt A5 cp6 a0.Depth, RE.rd kInt A9 cp10 a0.Item, RE.rd kInt A13 cp14 a0.Tri, RE.rd k_Level A17 cp18 a1.Levels, RE.rd k_Ar4_Int A39 cp40 v37.Color, RE.rd kInt A42 cp43 v37.Depth, RE.rd kInt A45 cp46 v37.Item, RE.rd kInt A48 cp49 v37.Tri, RE.rd k_Level A54 cp55 v52.Levels, RE.lt w136.heap.size k_Ar4_Int A1 cp2 a0.Color, RE.lt w136.heap.size kInt A5 cp6 a0.Depth, RE.lt w136.heap.size kInt A9 cp10 a0.Item, RE.lt w136.heap.size kInt A13 cp14 a0.Tri, RE.lt w136.heap.size k_Level A17 cp18 a1.Levels, RE.lt w136.heap.size k_Ar4_Int A39 cp40 v37.Color, RE.lt w136.heap.size kInt A42 cp43 v37.Depth, RE.lt w136.heap.size kInt A45 cp46 v37.Item, RE.lt w136.heap.size kInt A48 cp49 v37.Tri, RE.lt w136.heap.size k_Level A54 cp55 v52.Levels, RE.fr w136.heap.size k_Level A140 cp141 v138.1.Levels, RE.rd k_Level A140 cp141 v138.1.Levels, RE.rd k_Level A149 cp150 v147.1.Levels] := H.below H2.base
    clear H2
    refine ⟨_, rfl, ?_⟩
    show RL _ _ _ _ _ _ _
    refine RL_pure (by exact wn0 rfl) (by rfl) (by rfl) (x_move (v := tup [.bool v162.1, .int .i64 v162.2]) (by rfl)) ?_
    refine RL_pure (by exact wn0 rfl) (by rfl) (by rfl) (x_extract (v := .bool v162.1) (by rfl) (by rfl)) ?_
    refine RL_pure (by exact wn0 rfl) (by rfl) (by rfl) (x_extract (v := .int .i64 v162.2) (by rfl) (by rfl)) ?_
    refine RL_pure (by exact wn0 rfl) (by rfl) (by rfl) (x_assign (v := .bool v162.1) (by rfl)) ?_
    refine RL_pure (by exact wn0 rfl) (by rfl) (by rfl) (x_assign (v := .int .i64 v162.2) (by rfl)) ?_
    refine RL_nil ?_
    refine W_seq ?_
    refine W_region ?_
    refine RL_pure (by exact wn0 rfl) (by rfl) (by rfl) (x_loadA (j := 0) (vs := [.slice A17 a1.Levels.length cp18]) ag28 (by rfl) (H.cells (i := 1) (by rfl)) (by rfl) (by rfl)) ?_
    refine RL_pure (by exact wn0 rfl) (by rfl) (by rfl) (x_loadA (j := 0) (vs := [.int .i64 a2.Rect.X0, .int .i64 a2.Rect.Y0, .int .i64 a2.Rect.X1, .int .i64 a2.Rect.Y1, .int .i64 a2.D]) ag32 (by rfl) (H.cells (i := 2) (by rfl)) (by rfl) (by rfl)) ?_
    obtain ⟨v165, hv164, hm⟩ := bind_some hm
    refine RL_cons (O_call (by exact wn0 rfl) (by rfl) (by rfl) (x_callL (by rfl) (args := [.agg #[.slice A17 a1.Levels.length cp18], .agg #[.int .i64 a2.Rect.X0, .int .i64 a2.Rect.Y0, .int .i64 a2.Rect.X1, .int .i64 a2.Rect.Y1, .int .i64 a2.D]]) (by rfl) (cf20 _ _)) (c20 okT K w163 a1 A17 cp18 a2 (H.rd (i := 4) (by rfl)).any v165 hv164) ?_)
    rintro e w166 ⟨rfl, H2⟩
    have H : Sep ok w w166 [.blk b21 25 [.int .i64 a0.W, .int .i64 a0.H, .slice A1 a0.Color.length cp2, .slice A5 a0.Depth.length cp6, .slice A9 a0.Item.length cp10, .slice A13 a0.Tri.length cp14], .blk b23 28 [.slice A17 a1.Levels.length cp18], .blk b25 32 [.int .i64 a2.Rect.X0, .int .i64 a2.Rect.Y0, .int .i64 a2.Rect.X1, .int .i64 a2.Rect.Y1, .int .i64 a2.D], .blk b57 25 [.int .i64 v37.W, .int .i64 v37.H, .slice A39 v37.Color.length cp40, .slice A42 v37.Depth.length cp43, .slice A45 v37.Item.length cp46, .slice A48 v37.Tri.length cp49], .blk b59 28 [.slice A54 v52.Levels.length cp55], .blk b143 28 [.slice A140 v138.1.Levels.length cp141], .blk b152 28 [.slice A149 v147.1.Levels.length cp150]] [RE.rd k_Ar4_Int A1 cp2 a0.Color, RE.rd kInt A5 cp6 a0.Depth, RE.rd kInt A9 cp10 a0.Item, RE.rd kInt A13 cp14 a0.Tri, RE.rd k_Level A17 cp18 a1.Levels, RE.rd k_Ar4_Int A39 cp40 v37.Color, RE.rd kInt A42 cp43 v37.Depth, RE.rd kInt A45 cp46 v37.Item, RE.rd kInt A48 cp49 v37.Tri, RE.rd k_Level A54 cp55 v52.Levels, RE.lt w136.heap.size k_Ar4_Int A1 cp2 a0.Color, RE.lt w136.heap.size kInt A5 cp6 a0.Depth, RE.lt w136.heap.size kInt A9 cp10 a0.Item, RE.lt w136.heap.size kInt A13 cp14 a0.Tri, RE.lt w136.heap.size k_Level A17 cp18 a1.Levels, RE.lt w136.heap.size k_Ar4_Int A39 cp40 v37.Color, RE.lt w136.heap.size kInt A42 cp43 v37.Depth, RE.lt w136.heap.size kInt A45 cp46 v37.Item, RE.lt w136.heap.size kInt A48 cp49 v37.Tri, RE.lt w136.heap.size k_Level A54 cp55 v52.Levels, RE.fr w136.heap.size k_Level A140 cp141 v138.1.Levels, RE.rd k_Level A140 cp141 v138.1.Levels, RE.rd k_Level A149 cp150 v147.1.Levels] := H.below H2.base
    clear H2
    refine ⟨_, rfl, ?_⟩
    show RL _ _ _ _ _ _ _
    refine RL_pure (by exact wn0 rfl) (by rfl) (by rfl) (x_move (v := tup [.bool v165.1, .int .i64 v165.2]) (by rfl)) ?_
    refine RL_pure (by exact wn0 rfl) (by rfl) (by rfl) (x_extract (v := .bool v165.1) (by rfl) (by rfl)) ?_
    refine RL_pure (by exact wn0 rfl) (by rfl) (by rfl) (x_extract (v := .int .i64 v165.2) (by rfl) (by rfl)) ?_
    refine RL_pure (by exact wn0 rfl) (by rfl) (by rfl) (x_assign (v := .bool v165.1) (by rfl)) ?_
    refine RL_pure (by exact wn0 rfl) (by rfl) (by rfl) (x_assign (v := .int .i64 v165.2) (by rfl)) ?_
    refine RL_nil ?_
    refine W_seq ?_
    refine W_seq ?_
    refine W_draw [.take 0, .take 1, .run 2, .free 3, .free 4, .free 5, .free 6, .free 7, .free 8, .free 9, .free 10, .free 11, .free 12, .free 13, .free 14, .free 15, .free 16, .free 17, .free 18, .free 19, .free 20, .free 21, .free 22, .free 23, .free 24, .free 25, .free 26, .free 27, .free 28, .free 29, .take 30, .take 32, .run 31, .run 33, .free 34, .free 35] (fun wS => Sep ok w wS [.blk b21 25 [.int .i64 a0.W, .int .i64 a0.H, .slice A1 a0.Color.length cp2, .slice A5 a0.Depth.length cp6, .slice A9 a0.Item.length cp10, .slice A13 a0.Tri.length cp14], .blk b23 28 [.slice A17 a1.Levels.length cp18], .blk b25 32 [.int .i64 a2.Rect.X0, .int .i64 a2.Rect.Y0, .int .i64 a2.Rect.X1, .int .i64 a2.Rect.Y1, .int .i64 a2.D], .blk b57 25 [.int .i64 v37.W, .int .i64 v37.H, .slice A39 v37.Color.length cp40, .slice A42 v37.Depth.length cp43, .slice A45 v37.Item.length cp46, .slice A48 v37.Tri.length cp49], .blk b59 28 [.slice A54 v52.Levels.length cp55], .blk b143 28 [.slice A140 v138.1.Levels.length cp141], .blk b152 28 [.slice A149 v147.1.Levels.length cp150]] [RE.rd k_Ar4_Int A1 cp2 a0.Color, RE.rd kInt A5 cp6 a0.Depth, RE.rd kInt A9 cp10 a0.Item, RE.rd kInt A13 cp14 a0.Tri, RE.rd k_Level A17 cp18 a1.Levels, RE.rd k_Ar4_Int A39 cp40 v37.Color, RE.rd kInt A42 cp43 v37.Depth, RE.rd kInt A45 cp46 v37.Item, RE.rd kInt A48 cp49 v37.Tri, RE.rd k_Level A54 cp55 v52.Levels, RE.lt w136.heap.size k_Ar4_Int A1 cp2 a0.Color, RE.lt w136.heap.size kInt A5 cp6 a0.Depth, RE.lt w136.heap.size kInt A9 cp10 a0.Item, RE.lt w136.heap.size kInt A13 cp14 a0.Tri, RE.lt w136.heap.size k_Level A17 cp18 a1.Levels, RE.lt w136.heap.size k_Ar4_Int A39 cp40 v37.Color, RE.lt w136.heap.size kInt A42 cp43 v37.Depth, RE.lt w136.heap.size kInt A45 cp46 v37.Item, RE.lt w136.heap.size kInt A48 cp49 v37.Tri, RE.lt w136.heap.size k_Level A54 cp55 v52.Levels, RE.fr w136.heap.size k_Level A140 cp141 v138.1.Levels, RE.rd k_Level A140 cp141 v138.1.Levels, RE.rd k_Level A149 cp150 v147.1.Levels]) [] [3, 4, 5, 6, 7, 8, 9, 10, 11, 12, 13, 14, 15, 16, 17, 18, 19, 20, 21, 22, 23, 24, 25, 26, 27, 28, 29, 34, 35] mixed0 (by kernel_rfl) (by kernel_rfl) (by kernel_rfl) (by rfl) (by exact H.drew) ?_
    obtain ⟨w167, hW⟩ : ∃ W : World, W = { w166 with drawn := w166.drawn + 1 } := ⟨_, rfl⟩
    rw [← hW]
    have H : Sep ok w w167 [.blk b21 25 [.int .i64 a0.W, .int .i64 a0.H, .slice A1 a0.Color.length cp2, .slice A5 a0.Depth.length cp6, .slice A9 a0.Item.length cp10, .slice A13 a0.Tri.length cp14], .blk b23 28 [.slice A17 a1.Levels.length cp18], .blk b25 32 [.int .i64 a2.Rect.X0, .int .i64 a2.Rect.Y0, .int .i64 a2.Rect.X1, .int .i64 a2.Rect.Y1, .int .i64 a2.D], .blk b57 25 [.int .i64 v37.W, .int .i64 v37.H, .slice A39 v37.Color.length cp40, .slice A42 v37.Depth.length cp43, .slice A45 v37.Item.length cp46, .slice A48 v37.Tri.length cp49], .blk b59 28 [.slice A54 v52.Levels.length cp55], .blk b143 28 [.slice A140 v138.1.Levels.length cp141], .blk b152 28 [.slice A149 v147.1.Levels.length cp150]] [RE.rd k_Ar4_Int A1 cp2 a0.Color, RE.rd kInt A5 cp6 a0.Depth, RE.rd kInt A9 cp10 a0.Item, RE.rd kInt A13 cp14 a0.Tri, RE.rd k_Level A17 cp18 a1.Levels, RE.rd k_Ar4_Int A39 cp40 v37.Color, RE.rd kInt A42 cp43 v37.Depth, RE.rd kInt A45 cp46 v37.Item, RE.rd kInt A48 cp49 v37.Tri, RE.rd k_Level A54 cp55 v52.Levels, RE.lt w136.heap.size k_Ar4_Int A1 cp2 a0.Color, RE.lt w136.heap.size kInt A5 cp6 a0.Depth, RE.lt w136.heap.size kInt A9 cp10 a0.Item, RE.lt w136.heap.size kInt A13 cp14 a0.Tri, RE.lt w136.heap.size k_Level A17 cp18 a1.Levels, RE.lt w136.heap.size k_Ar4_Int A39 cp40 v37.Color, RE.lt w136.heap.size kInt A42 cp43 v37.Depth, RE.lt w136.heap.size kInt A45 cp46 v37.Item, RE.lt w136.heap.size kInt A48 cp49 v37.Tri, RE.lt w136.heap.size k_Level A54 cp55 v52.Levels, RE.fr w136.heap.size k_Level A140 cp141 v138.1.Levels, RE.rd k_Level A140 cp141 v138.1.Levels, RE.rd k_Level A149 cp150 v147.1.Levels] := by rw [hW]; exact H.drew
    clear hW
    refine PR_take (by rfl) (by rfl) (by rfl) (by exact wn0 rfl) (fun wS (H : Sep ok w wS [.blk b21 25 [.int .i64 a0.W, .int .i64 a0.H, .slice A1 a0.Color.length cp2, .slice A5 a0.Depth.length cp6, .slice A9 a0.Item.length cp10, .slice A13 a0.Tri.length cp14], .blk b23 28 [.slice A17 a1.Levels.length cp18], .blk b25 32 [.int .i64 a2.Rect.X0, .int .i64 a2.Rect.Y0, .int .i64 a2.Rect.X1, .int .i64 a2.Rect.Y1, .int .i64 a2.D], .blk b57 25 [.int .i64 v37.W, .int .i64 v37.H, .slice A39 v37.Color.length cp40, .slice A42 v37.Depth.length cp43, .slice A45 v37.Item.length cp46, .slice A48 v37.Tri.length cp49], .blk b59 28 [.slice A54 v52.Levels.length cp55], .blk b143 28 [.slice A140 v138.1.Levels.length cp141], .blk b152 28 [.slice A149 v147.1.Levels.length cp150]] [RE.rd k_Ar4_Int A1 cp2 a0.Color, RE.rd kInt A5 cp6 a0.Depth, RE.rd kInt A9 cp10 a0.Item, RE.rd kInt A13 cp14 a0.Tri, RE.rd k_Level A17 cp18 a1.Levels, RE.rd k_Ar4_Int A39 cp40 v37.Color, RE.rd kInt A42 cp43 v37.Depth, RE.rd kInt A45 cp46 v37.Item, RE.rd kInt A48 cp49 v37.Tri, RE.rd k_Level A54 cp55 v52.Levels, RE.lt w136.heap.size k_Ar4_Int A1 cp2 a0.Color, RE.lt w136.heap.size kInt A5 cp6 a0.Depth, RE.lt w136.heap.size kInt A9 cp10 a0.Item, RE.lt w136.heap.size kInt A13 cp14 a0.Tri, RE.lt w136.heap.size k_Level A17 cp18 a1.Levels, RE.lt w136.heap.size k_Ar4_Int A39 cp40 v37.Color, RE.lt w136.heap.size kInt A42 cp43 v37.Depth, RE.lt w136.heap.size kInt A45 cp46 v37.Item, RE.lt w136.heap.size kInt A48 cp49 v37.Tri, RE.lt w136.heap.size k_Level A54 cp55 v52.Levels, RE.fr w136.heap.size k_Level A140 cp141 v138.1.Levels, RE.rd k_Level A140 cp141 v138.1.Levels, RE.rd k_Level A149 cp150 v147.1.Levels]) => (x_loadA (j := 0) (vs := [.slice A140 v138.1.Levels.length cp141]) ag28 (by rfl) (H.cells (i := 5) (by rfl)) (by rfl) (by rfl))) ?_
    refine PR_take (by rfl) (by rfl) (by rfl) (by exact wn0 rfl) (fun wS (H : Sep ok w wS [.blk b21 25 [.int .i64 a0.W, .int .i64 a0.H, .slice A1 a0.Color.length cp2, .slice A5 a0.Depth.length cp6, .slice A9 a0.Item.length cp10, .slice A13 a0.Tri.length cp14], .blk b23 28 [.slice A17 a1.Levels.length cp18], .blk b25 32 [.int .i64 a2.Rect.X0, .int .i64 a2.Rect.Y0, .int .i64 a2.Rect.X1, .int .i64 a2.Rect.Y1, .int .i64 a2.D], .blk b57 25 [.int .i64 v37.W, .int .i64 v37.H, .slice A39 v37.Color.length cp40, .slice A42 v37.Depth.length cp43, .slice A45 v37.Item.length cp46, .slice A48 v37.Tri.length cp49], .blk b59 28 [.slice A54 v52.Levels.length cp55], .blk b143 28 [.slice A140 v138.1.Levels.length cp141], .blk b152 28 [.slice A149 v147.1.Levels.length cp150]] [RE.rd k_Ar4_Int A1 cp2 a0.Color, RE.rd kInt A5 cp6 a0.Depth, RE.rd kInt A9 cp10 a0.Item, RE.rd kInt A13 cp14 a0.Tri, RE.rd k_Level A17 cp18 a1.Levels, RE.rd k_Ar4_Int A39 cp40 v37.Color, RE.rd kInt A42 cp43 v37.Depth, RE.rd kInt A45 cp46 v37.Item, RE.rd kInt A48 cp49 v37.Tri, RE.rd k_Level A54 cp55 v52.Levels, RE.lt w136.heap.size k_Ar4_Int A1 cp2 a0.Color, RE.lt w136.heap.size kInt A5 cp6 a0.Depth, RE.lt w136.heap.size kInt A9 cp10 a0.Item, RE.lt w136.heap.size kInt A13 cp14 a0.Tri, RE.lt w136.heap.size k_Level A17 cp18 a1.Levels, RE.lt w136.heap.size k_Ar4_Int A39 cp40 v37.Color, RE.lt w136.heap.size kInt A42 cp43 v37.Depth, RE.lt w136.heap.size kInt A45 cp46 v37.Item, RE.lt w136.heap.size kInt A48 cp49 v37.Tri, RE.lt w136.heap.size k_Level A54 cp55 v52.Levels, RE.fr w136.heap.size k_Level A140 cp141 v138.1.Levels, RE.rd k_Level A140 cp141 v138.1.Levels, RE.rd k_Level A149 cp150 v147.1.Levels]) => (x_loadA (j := 0) (vs := [.slice A149 v147.1.Levels.length cp150]) ag28 (by rfl) (H.cells (i := 6) (by rfl)) (by rfl) (by rfl))) ?_
    obtain ⟨v169, hv168, hm⟩ := bind_some hm
    refine PR_run (by rfl) (O_call (by exact wn0 rfl) (by rfl) (by rfl) (x_callL (by rfl) (args := [.agg #[.slice A140 v138.1.Levels.length cp141], .agg #[.slice A149 v147.1.Levels.length cp150]]) (by rfl) (cf21 _ _)) (c21 okT K w167 v138.1 A140 cp141 v147.1 A149 cp150 (H.rd (i := 21) (by rfl)).any (H.rd (i := 22) (by rfl)).any v169 hv168) ?_)
    rintro e w170 ⟨rfl, H2⟩
    have H : Sep ok w w170 [.blk b21 25 [.int .i64 a0.W, .int .i64 a0.H, .slice A1 a0.Color.length cp2, .slice A5 a0.Depth.length cp6, .slice A9 a0.Item.length cp10, .slice A13 a0.Tri.length cp14], .blk b23 28 [.slice A17 a1.Levels.length cp18], .blk b25 32 [.int .i64 a2.Rect.X0, .int .i64 a2.Rect.Y0, .int .i64 a2.Rect.X1, .int .i64 a2.Rect.Y1, .int .i64 a2.D], .blk b57 25 [.int .i64 v37.W, .int .i64 v37.H, .slice A39 v37.Color.length cp40, .slice A42 v37.Depth.length cp43, .slice A45 v37.Item.length cp46, .slice A48 v37.Tri.length cp49], .blk b59 28 [.slice A54 v52.Levels.length cp55], .blk b143 28 [.slice A140 v138.1.Levels.length cp141], .blk b152 28 [.slice A149 v147.1.Levels.length cp150]] [RE.rd k_Ar4_Int A1 cp2 a0.Color, RE.rd kInt A5 cp6 a0.Depth, RE.rd kInt A9 cp10 a0.Item, RE.rd kInt A13 cp14 a0.Tri, RE.rd k_Level A17 cp18 a1.Levels, RE.rd k_Ar4_Int A39 cp40 v37.Color, RE.rd kInt A42 cp43 v37.Depth, RE.rd kInt A45 cp46 v37.Item, RE.rd kInt A48 cp49 v37.Tri, RE.rd k_Level A54 cp55 v52.Levels, RE.lt w136.heap.size k_Ar4_Int A1 cp2 a0.Color, RE.lt w136.heap.size kInt A5 cp6 a0.Depth, RE.lt w136.heap.size kInt A9 cp10 a0.Item, RE.lt w136.heap.size kInt A13 cp14 a0.Tri, RE.lt w136.heap.size k_Level A17 cp18 a1.Levels, RE.lt w136.heap.size k_Ar4_Int A39 cp40 v37.Color, RE.lt w136.heap.size kInt A42 cp43 v37.Depth, RE.lt w136.heap.size kInt A45 cp46 v37.Item, RE.lt w136.heap.size kInt A48 cp49 v37.Tri, RE.lt w136.heap.size k_Level A54 cp55 v52.Levels, RE.fr w136.heap.size k_Level A140 cp141 v138.1.Levels, RE.rd k_Level A140 cp141 v138.1.Levels, RE.rd k_Level A149 cp150 v147.1.Levels] := H.below H2.base
    clear H2
    refine ⟨_, rfl, H, ?_⟩
    show PR _ _ _ _ _ _ _ _
    refine PR_free (by rfl) (by rfl) (by rfl) (by exact wn0 rfl) (fun wS => (x_not (by rfl))) ?_
    refine PR_free (by rfl) (by rfl) (by rfl) (by exact wn0 rfl) (fun wS => (x_move (v := .bool (!v169)) (by rfl))) ?_
    obtain ⟨b171, hmS, hm⟩ := bind_some hm
    refine PR_cut 4 (fun r' w' => Agr [(77, .bool b171), (3, .pointer (some ⟨b21, 0, none⟩)), (4, .pointer (some ⟨b23, 0, none⟩)), (7, .pointer (some ⟨b57, 0, none⟩)), (8, .pointer (some ⟨b59, 0, none⟩)), (9, .pointer (some ⟨b143, 0, none⟩)), (13, .int .i64 v156.1), (14, .int .i64 v156.2), (15, .int .i64 v159.1), (16, .int .i64 v159.2), (17, .bool v162.1), (18, .int .i64 v162.2), (19, .bool v165.1), (20, .int .i64 v165.2)] r' ∧ Sep ok w w' [.blk b21 25 [.int .i64 a0.W, .int .i64 a0.H, .slice A1 a0.Color.length cp2, .slice A5 a0.Depth.length cp6, .slice A9 a0.Item.length cp10, .slice A13 a0.Tri.length cp14], .blk b23 28 [.slice A17 a1.Levels.length cp18], .blk b25 32 [.int .i64 a2.Rect.X0, .int .i64 a2.Rect.Y0, .int .i64 a2.Rect.X1, .int .i64 a2.Rect.Y1, .int .i64 a2.D], .blk b57 25 [.int .i64 v37.W, .int .i64 v37.H, .slice A39 v37.Color.length cp40, .slice A42 v37.Depth.length cp43, .slice A45 v37.Item.length cp46, .slice A48 v37.Tri.length cp49], .blk b59 28 [.slice A54 v52.Levels.length cp55], .blk b143 28 [.slice A140 v138.1.Levels.length cp141], .blk b152 28 [.slice A149 v147.1.Levels.length cp150]] [RE.rd k_Ar4_Int A1 cp2 a0.Color, RE.rd kInt A5 cp6 a0.Depth, RE.rd kInt A9 cp10 a0.Item, RE.rd kInt A13 cp14 a0.Tri, RE.rd k_Level A17 cp18 a1.Levels, RE.rd k_Ar4_Int A39 cp40 v37.Color, RE.rd kInt A42 cp43 v37.Depth, RE.rd kInt A45 cp46 v37.Item, RE.rd kInt A48 cp49 v37.Tri, RE.rd k_Level A54 cp55 v52.Levels, RE.lt w136.heap.size k_Ar4_Int A1 cp2 a0.Color, RE.lt w136.heap.size kInt A5 cp6 a0.Depth, RE.lt w136.heap.size kInt A9 cp10 a0.Item, RE.lt w136.heap.size kInt A13 cp14 a0.Tri, RE.lt w136.heap.size k_Level A17 cp18 a1.Levels, RE.lt w136.heap.size k_Ar4_Int A39 cp40 v37.Color, RE.lt w136.heap.size kInt A42 cp43 v37.Depth, RE.lt w136.heap.size kInt A45 cp46 v37.Item, RE.lt w136.heap.size kInt A48 cp49 v37.Tri, RE.lt w136.heap.size k_Level A54 cp55 v52.Levels, RE.fr w136.heap.size k_Level A140 cp141 v138.1.Levels, RE.rd k_Level A140 cp141 v138.1.Levels, RE.rd k_Level A149 cp150 v147.1.Levels]) ?_ ?_
    ·cases hbS : (!v169)
     ·have hm := cond_f hbS hmS
      refine PR_free (by rfl) (by rfl) (by rfl) (by exact wn1 rfl rfl rfl rfl) (fun wS => (x_move (v := .int .i64 v138.2) (by rfl))) ?_
      refine PR_free (by rfl) (by rfl) (by rfl) (by exact wn1 rfl rfl rfl rfl) (fun wS => (x_move (v := .int .i64 v147.2) (by rfl))) ?_
      refine PR_free (by rfl) (by rfl) (by rfl) (by exact wn1 rfl rfl rfl rfl) (fun wS => (x_neq (by rfl) (by rfl))) ?_
      refine PR_free (by rfl) (by rfl) (by rfl) (by exact wn0 rfl) (fun wS => (x_pick_f (v := .bool (v138.2 != v147.2)) (by rfl) (by rfl))) ?_
      refine PR_nil ?_
      exact ⟨⟨congrArg Value.bool (Option.some.inj hm), rfl, rfl, rfl, rfl, rfl, rfl, rfl, rfl, rfl, rfl, rfl, rfl, rfl, trivial⟩, H⟩
     ·have hm := cond_t hbS hmS
      refine PR_offF (by rfl) (by rfl) (by rfl) (by exact wn2 rfl rfl rfl rfl) ?_
      refine PR_offF (by rfl) (by rfl) (by rfl) (by exact wn2 rfl rfl rfl rfl) ?_
      refine PR_offF (by rfl) (by rfl) (by rfl) (by exact wn2 rfl rfl rfl rfl) ?_
      refine PR_free (by rfl) (by rfl) (by rfl) (by exact wn0 rfl) (fun wS => (x_pick_t (v := .bool true) (by rfl) (by rfl))) ?_
      refine PR_nil ?_
      exact ⟨⟨congrArg Value.bool (Option.some.inj hm), rfl, rfl, rfl, rfl, rfl, rfl, rfl, rfl, rfl, rfl, rfl, rfl, rfl, trivial⟩, H⟩
    ·rintro r' w' ⟨hA, H⟩
     obtain ⟨r172, rfl⟩ := regen _ hA; clear hA
     obtain ⟨w173, rfl⟩ : ∃ W : World, W = w' := ⟨_, rfl⟩
     show PR _ _ _ _ _ _ _ _
     refine PR_free (by rfl) (by rfl) (by rfl) (by exact wn0 rfl) (fun wS => (x_move (v := .bool b171) (by rfl))) ?_
     obtain ⟨b174, hmS, hm⟩ := bind_some hm
     refine PR_cut 4 (fun r' w' => Agr [(82, .bool b174), (3, .pointer (some ⟨b21, 0, none⟩)), (4, .pointer (some ⟨b23, 0, none⟩)), (7, .pointer (some ⟨b57, 0, none⟩)), (8, .pointer (some ⟨b59, 0, none⟩)), (9, .pointer (some ⟨b143, 0, none⟩)), (14, .int .i64 v156.2), (16, .int .i64 v159.2), (17, .bool v162.1), (18, .int .i64 v162.2), (19, .bool v165.1), (20, .int .i64 v165.2)] r' ∧ Sep ok w w' [.blk b21 25 [.int .i64 a0.W, .int .i64 a0.H, .slice A1 a0.Color.length cp2, .slice A5 a0.Depth.length cp6, .slice A9 a0.Item.length cp10, .slice A13 a0.Tri.length cp14], .blk b23 28 [.slice A17 a1.Levels.length cp18], .blk b25 32 [.int .i64 a2.Rect.X0, .int .i64 a2.Rect.Y0, .int .i64 a2.Rect.X1, .int .i64 a2.Rect.Y1, .int .i64 a2.D], .blk b57 25 [.int .i64 v37.W, .int .i64 v37.H, .slice A39 v37.Color.length cp40, .slice A42 v37.Depth.length cp43, .slice A45 v37.Item.length cp46, .slice A48 v37.Tri.length cp49], .blk b59 28 [.slice A54 v52.Levels.length cp55], .blk b143 28 [.slice A140 v138.1.Levels.length cp141], .blk b152 28 [.slice A149 v147.1.Levels.length cp150]] [RE.rd k_Ar4_Int A1 cp2 a0.Color, RE.rd kInt A5 cp6 a0.Depth, RE.rd kInt A9 cp10 a0.Item, RE.rd kInt A13 cp14 a0.Tri, RE.rd k_Level A17 cp18 a1.Levels, RE.rd k_Ar4_Int A39 cp40 v37.Color, RE.rd kInt A42 cp43 v37.Depth, RE.rd kInt A45 cp46 v37.Item, RE.rd kInt A48 cp49 v37.Tri, RE.rd k_Level A54 cp55 v52.Levels, RE.lt w136.heap.size k_Ar4_Int A1 cp2 a0.Color, RE.lt w136.heap.size kInt A5 cp6 a0.Depth, RE.lt w136.heap.size kInt A9 cp10 a0.Item, RE.lt w136.heap.size kInt A13 cp14 a0.Tri, RE.lt w136.heap.size k_Level A17 cp18 a1.Levels, RE.lt w136.heap.size k_Ar4_Int A39 cp40 v37.Color, RE.lt w136.heap.size kInt A42 cp43 v37.Depth, RE.lt w136.heap.size kInt A45 cp46 v37.Item, RE.lt w136.heap.size kInt A48 cp49 v37.Tri, RE.lt w136.heap.size k_Level A54 cp55 v52.Levels, RE.fr w136.heap.size k_Level A140 cp141 v138.1.Levels, RE.rd k_Level A140 cp141 v138.1.Levels, RE.rd k_Level A149 cp150 v147.1.Levels]) ?_ ?_
     ·cases hbS : b171
      ·have hm := cond_f hbS hmS
       refine PR_free (by rfl) (by rfl) (by rfl) (by exact wn1 rfl rfl rfl rfl) (fun wS => (x_move (v := .int .i64 v156.1) (by rfl))) ?_
       refine PR_free (by rfl) (by rfl) (by rfl) (by exact wn1 rfl rfl rfl rfl) (fun wS => (x_move (v := .int .i64 v159.1) (by rfl))) ?_
       refine PR_free (by rfl) (by rfl) (by rfl) (by exact wn1 rfl rfl rfl rfl) (fun wS => (x_neq (by rfl) (by rfl))) ?_
       refine PR_free (by rfl) (by rfl) (by rfl) (by exact wn0 rfl) (fun wS => (x_pick_f (v := .bool (v156.1 != v159.1)) (by rfl) (by rfl))) ?_
       refine PR_nil ?_
       exact ⟨⟨congrArg Value.bool (Option.some.inj hm), rfl, rfl, rfl, rfl, rfl, rfl, rfl, rfl, rfl, rfl, rfl, trivial⟩, H⟩
      ·have hm := cond_t hbS hmS
       refine PR_offF (by rfl) (by rfl) (by rfl) (by exact wn2 rfl rfl rfl rfl) ?_
       refine PR_offF (by rfl) (by rfl) (by rfl) (by exact wn2 rfl rfl rfl rfl) ?_
       refine PR_offF (by rfl) (by rfl) (by rfl) (by exact wn2 rfl rfl rfl rfl) ?_
       refine PR_free (by rfl) (by rfl) (by rfl) (by exact wn0 rfl) (fun wS => (x_pick_t (v := .bool true) (by rfl) (by rfl))) ?_
       refine PR_nil ?_
       exact ⟨⟨congrArg Value.bool (Option.some.inj hm), rfl, rfl, rfl, rfl, rfl, rfl, rfl, rfl, rfl, rfl, rfl, trivial⟩, H⟩
     ·rintro r' w' ⟨hA, H⟩
      obtain ⟨r175, rfl⟩ := regen _ hA; clear hA
      obtain ⟨w176, rfl⟩ : ∃ W : World, W = w' := ⟨_, rfl⟩
      show PR _ _ _ _ _ _ _ _
      refine PR_free (by rfl) (by rfl) (by rfl) (by exact wn0 rfl) (fun wS => (x_move (v := .bool b174) (by rfl))) ?_
      obtain ⟨b177, hmS, hm⟩ := bind_some hm
      refine PR_cut 4 (fun r' w' => Agr [(87, .bool b177), (3, .pointer (some ⟨b21, 0, none⟩)), (4, .pointer (some ⟨b23, 0, none⟩)), (7, .pointer (some ⟨b57, 0, none⟩)), (8, .pointer (some ⟨b59, 0, none⟩)), (9, .pointer (some ⟨b143, 0, none⟩)), (17, .bool v162.1), (18, .int .i64 v162.2), (19, .bool v165.1), (20, .int .i64 v165.2)] r' ∧ Sep ok w w' [.blk b21 25 [.int .i64 a0.W, .int .i64 a0.H, .slice A1 a0.Color.length cp2, .slice A5 a0.Depth.length cp6, .slice A9 a0.Item.length cp10, .slice A13 a0.Tri.length cp14], .blk b23 28 [.slice A17 a1.Levels.length cp18], .blk b25 32 [.int .i64 a2.Rect.X0, .int .i64 a2.Rect.Y0, .int .i64 a2.Rect.X1, .int .i64 a2.Rect.Y1, .int .i64 a2.D], .blk b57 25 [.int .i64 v37.W, .int .i64 v37.H, .slice A39 v37.Color.length cp40, .slice A42 v37.Depth.length cp43, .slice A45 v37.Item.length cp46, .slice A48 v37.Tri.length cp49], .blk b59 28 [.slice A54 v52.Levels.length cp55], .blk b143 28 [.slice A140 v138.1.Levels.length cp141], .blk b152 28 [.slice A149 v147.1.Levels.length cp150]] [RE.rd k_Ar4_Int A1 cp2 a0.Color, RE.rd kInt A5 cp6 a0.Depth, RE.rd kInt A9 cp10 a0.Item, RE.rd kInt A13 cp14 a0.Tri, RE.rd k_Level A17 cp18 a1.Levels, RE.rd k_Ar4_Int A39 cp40 v37.Color, RE.rd kInt A42 cp43 v37.Depth, RE.rd kInt A45 cp46 v37.Item, RE.rd kInt A48 cp49 v37.Tri, RE.rd k_Level A54 cp55 v52.Levels, RE.lt w136.heap.size k_Ar4_Int A1 cp2 a0.Color, RE.lt w136.heap.size kInt A5 cp6 a0.Depth, RE.lt w136.heap.size kInt A9 cp10 a0.Item, RE.lt w136.heap.size kInt A13 cp14 a0.Tri, RE.lt w136.heap.size k_Level A17 cp18 a1.Levels, RE.lt w136.heap.size k_Ar4_Int A39 cp40 v37.Color, RE.lt w136.heap.size kInt A42 cp43 v37.Depth, RE.lt w136.heap.size kInt A45 cp46 v37.Item, RE.lt w136.heap.size kInt A48 cp49 v37.Tri, RE.lt w136.heap.size k_Level A54 cp55 v52.Levels, RE.fr w136.heap.size k_Level A140 cp141 v138.1.Levels, RE.rd k_Level A140 cp141 v138.1.Levels, RE.rd k_Level A149 cp150 v147.1.Levels]) ?_ ?_
      ·cases hbS : b174
       ·have hm := cond_f hbS hmS
        refine PR_free (by rfl) (by rfl) (by rfl) (by exact wn1 rfl rfl rfl rfl) (fun wS => (x_move (v := .int .i64 v156.2) (by rfl))) ?_
        refine PR_free (by rfl) (by rfl) (by rfl) (by exact wn1 rfl rfl rfl rfl) (fun wS => (x_move (v := .int .i64 v159.2) (by rfl))) ?_
        refine PR_free (by rfl) (by rfl) (by rfl) (by exact wn1 rfl rfl rfl rfl) (fun wS => (x_neq (by rfl) (by rfl))) ?_
        refine PR_free (by rfl) (by rfl) (by rfl) (by exact wn0 rfl) (fun wS => (x_pick_f (v := .bool (v156.2 != v159.2)) (by rfl) (by rfl))) ?_
        refine PR_nil ?_
        exact ⟨⟨congrArg Value.bool (Option.some.inj hm), rfl, rfl, rfl, rfl, rfl, rfl, rfl, rfl, rfl, trivial⟩, H⟩
       ·have hm := cond_t hbS hmS
        refine PR_offF (by rfl) (by rfl) (by rfl) (by exact wn2 rfl rfl rfl rfl) ?_
        refine PR_offF (by rfl) (by rfl) (by rfl) (by exact wn2 rfl rfl rfl rfl) ?_
        refine PR_offF (by rfl) (by rfl) (by rfl) (by exact wn2 rfl rfl rfl rfl) ?_
        refine PR_free (by rfl) (by rfl) (by rfl) (by exact wn0 rfl) (fun wS => (x_pick_t (v := .bool true) (by rfl) (by rfl))) ?_
        refine PR_nil ?_
        exact ⟨⟨congrArg Value.bool (Option.some.inj hm), rfl, rfl, rfl, rfl, rfl, rfl, rfl, rfl, rfl, trivial⟩, H⟩
      ·rintro r' w' ⟨hA, H⟩
       obtain ⟨r178, rfl⟩ := regen _ hA; clear hA
       obtain ⟨w179, rfl⟩ : ∃ W : World, W = w' := ⟨_, rfl⟩
       show PR _ _ _ _ _ _ _ _
       refine PR_free (by rfl) (by rfl) (by rfl) (by exact wn0 rfl) (fun wS => (x_move (v := .bool b177) (by rfl))) ?_
       obtain ⟨b180, hmS, hm⟩ := bind_some hm
       refine PR_cut 4 (fun r' w' => Agr [(92, .bool b180), (3, .pointer (some ⟨b21, 0, none⟩)), (4, .pointer (some ⟨b23, 0, none⟩)), (7, .pointer (some ⟨b57, 0, none⟩)), (8, .pointer (some ⟨b59, 0, none⟩)), (9, .pointer (some ⟨b143, 0, none⟩)), (18, .int .i64 v162.2), (20, .int .i64 v165.2)] r' ∧ Sep ok w w' [.blk b21 25 [.int .i64 a0.W, .int .i64 a0.H, .slice A1 a0.Color.length cp2, .slice A5 a0.Depth.length cp6, .slice A9 a0.Item.length cp10, .slice A13 a0.Tri.length cp14], .blk b23 28 [.slice A17 a1.Levels.length cp18], .blk b25 32 [.int .i64 a2.Rect.X0, .int .i64 a2.Rect.Y0, .int .i64 a2.Rect.X1, .int .i64 a2.Rect.Y1, .int .i64 a2.D], .blk b57 25 [.int .i64 v37.W, .int .i64 v37.H, .slice A39 v37.Color.length cp40, .slice A42 v37.Depth.length cp43, .slice A45 v37.Item.length cp46, .slice A48 v37.Tri.length cp49], .blk b59 28 [.slice A54 v52.Levels.length cp55], .blk b143 28 [.slice A140 v138.1.Levels.length cp141], .blk b152 28 [.slice A149 v147.1.Levels.length cp150]] [RE.rd k_Ar4_Int A1 cp2 a0.Color, RE.rd kInt A5 cp6 a0.Depth, RE.rd kInt A9 cp10 a0.Item, RE.rd kInt A13 cp14 a0.Tri, RE.rd k_Level A17 cp18 a1.Levels, RE.rd k_Ar4_Int A39 cp40 v37.Color, RE.rd kInt A42 cp43 v37.Depth, RE.rd kInt A45 cp46 v37.Item, RE.rd kInt A48 cp49 v37.Tri, RE.rd k_Level A54 cp55 v52.Levels, RE.lt w136.heap.size k_Ar4_Int A1 cp2 a0.Color, RE.lt w136.heap.size kInt A5 cp6 a0.Depth, RE.lt w136.heap.size kInt A9 cp10 a0.Item, RE.lt w136.heap.size kInt A13 cp14 a0.Tri, RE.lt w136.heap.size k_Level A17 cp18 a1.Levels, RE.lt w136.heap.size k_Ar4_Int A39 cp40 v37.Color, RE.lt w136.heap.size kInt A42 cp43 v37.Depth, RE.lt w136.heap.size kInt A45 cp46 v37.Item, RE.lt w136.heap.size kInt A48 cp49 v37.Tri, RE.lt w136.heap.size k_Level A54 cp55 v52.Levels, RE.fr w136.heap.size k_Level A140 cp141 v138.1.Levels, RE.rd k_Level A140 cp141 v138.1.Levels, RE.rd k_Level A149 cp150 v147.1.Levels]) ?_ ?_
       ·cases hbS : b177
        ·have hm := cond_f hbS hmS
         refine PR_free (by rfl) (by rfl) (by rfl) (by exact wn1 rfl rfl rfl rfl) (fun wS => (x_move (v := .bool v162.1) (by rfl))) ?_
         refine PR_free (by rfl) (by rfl) (by rfl) (by exact wn1 rfl rfl rfl rfl) (fun wS => (x_move (v := .bool v165.1) (by rfl))) ?_
         refine PR_free (by rfl) (by rfl) (by rfl) (by exact wn1 rfl rfl rfl rfl) (fun wS => (x_neqb un4 (by rfl) (by rfl))) ?_
         refine PR_free (by rfl) (by rfl) (by rfl) (by exact wn0 rfl) (fun wS => (x_pick_f (v := .bool (!(v162.1 == v165.1))) (by rfl) (by rfl))) ?_
         refine PR_nil ?_
         exact ⟨⟨congrArg Value.bool (Option.some.inj hm), rfl, rfl, rfl, rfl, rfl, rfl, rfl, trivial⟩, H⟩
        ·have hm := cond_t hbS hmS
         refine PR_offF (by rfl) (by rfl) (by rfl) (by exact wn2 rfl rfl rfl rfl) ?_
         refine PR_offF (by rfl) (by rfl) (by rfl) (by exact wn2 rfl rfl rfl rfl) ?_
         refine PR_offF (by rfl) (by rfl) (by rfl) (by exact wn2 rfl rfl rfl rfl) ?_
         refine PR_free (by rfl) (by rfl) (by rfl) (by exact wn0 rfl) (fun wS => (x_pick_t (v := .bool true) (by rfl) (by rfl))) ?_
         refine PR_nil ?_
         exact ⟨⟨congrArg Value.bool (Option.some.inj hm), rfl, rfl, rfl, rfl, rfl, rfl, rfl, trivial⟩, H⟩
       ·rintro r' w' ⟨hA, H⟩
        obtain ⟨r181, rfl⟩ := regen _ hA; clear hA
        obtain ⟨w182, rfl⟩ : ∃ W : World, W = w' := ⟨_, rfl⟩
        show PR _ _ _ _ _ _ _ _
        refine PR_free (by rfl) (by rfl) (by rfl) (by exact wn0 rfl) (fun wS => (x_move (v := .bool b180) (by rfl))) ?_
        obtain ⟨b183, hmS, hm⟩ := bind_some hm
        refine PR_cut 4 (fun r' w' => Agr [(97, .bool b183), (3, .pointer (some ⟨b21, 0, none⟩)), (4, .pointer (some ⟨b23, 0, none⟩)), (7, .pointer (some ⟨b57, 0, none⟩)), (8, .pointer (some ⟨b59, 0, none⟩)), (9, .pointer (some ⟨b143, 0, none⟩))] r' ∧ Sep ok w w' [.blk b21 25 [.int .i64 a0.W, .int .i64 a0.H, .slice A1 a0.Color.length cp2, .slice A5 a0.Depth.length cp6, .slice A9 a0.Item.length cp10, .slice A13 a0.Tri.length cp14], .blk b23 28 [.slice A17 a1.Levels.length cp18], .blk b25 32 [.int .i64 a2.Rect.X0, .int .i64 a2.Rect.Y0, .int .i64 a2.Rect.X1, .int .i64 a2.Rect.Y1, .int .i64 a2.D], .blk b57 25 [.int .i64 v37.W, .int .i64 v37.H, .slice A39 v37.Color.length cp40, .slice A42 v37.Depth.length cp43, .slice A45 v37.Item.length cp46, .slice A48 v37.Tri.length cp49], .blk b59 28 [.slice A54 v52.Levels.length cp55], .blk b143 28 [.slice A140 v138.1.Levels.length cp141], .blk b152 28 [.slice A149 v147.1.Levels.length cp150]] [RE.rd k_Ar4_Int A1 cp2 a0.Color, RE.rd kInt A5 cp6 a0.Depth, RE.rd kInt A9 cp10 a0.Item, RE.rd kInt A13 cp14 a0.Tri, RE.rd k_Level A17 cp18 a1.Levels, RE.rd k_Ar4_Int A39 cp40 v37.Color, RE.rd kInt A42 cp43 v37.Depth, RE.rd kInt A45 cp46 v37.Item, RE.rd kInt A48 cp49 v37.Tri, RE.rd k_Level A54 cp55 v52.Levels, RE.lt w136.heap.size k_Ar4_Int A1 cp2 a0.Color, RE.lt w136.heap.size kInt A5 cp6 a0.Depth, RE.lt w136.heap.size kInt A9 cp10 a0.Item, RE.lt w136.heap.size kInt A13 cp14 a0.Tri, RE.lt w136.heap.size k_Level A17 cp18 a1.Levels, RE.lt w136.heap.size k_Ar4_Int A39 cp40 v37.Color, RE.lt w136.heap.size kInt A42 cp43 v37.Depth, RE.lt w136.heap.size kInt A45 cp46 v37.Item, RE.lt w136.heap.size kInt A48 cp49 v37.Tri, RE.lt w136.heap.size k_Level A54 cp55 v52.Levels, RE.fr w136.heap.size k_Level A140 cp141 v138.1.Levels, RE.rd k_Level A140 cp141 v138.1.Levels, RE.rd k_Level A149 cp150 v147.1.Levels]) ?_ ?_
        ·cases hbS : b180
         ·have hm := cond_f hbS hmS
          refine PR_free (by rfl) (by rfl) (by rfl) (by exact wn1 rfl rfl rfl rfl) (fun wS => (x_move (v := .int .i64 v162.2) (by rfl))) ?_
          refine PR_free (by rfl) (by rfl) (by rfl) (by exact wn1 rfl rfl rfl rfl) (fun wS => (x_move (v := .int .i64 v165.2) (by rfl))) ?_
          refine PR_free (by rfl) (by rfl) (by rfl) (by exact wn1 rfl rfl rfl rfl) (fun wS => (x_neq (by rfl) (by rfl))) ?_
          refine PR_free (by rfl) (by rfl) (by rfl) (by exact wn0 rfl) (fun wS => (x_pick_f (v := .bool (v162.2 != v165.2)) (by rfl) (by rfl))) ?_
          refine PR_nil ?_
          exact ⟨⟨congrArg Value.bool (Option.some.inj hm), rfl, rfl, rfl, rfl, rfl, trivial⟩, H⟩
         ·have hm := cond_t hbS hmS
          refine PR_offF (by rfl) (by rfl) (by rfl) (by exact wn2 rfl rfl rfl rfl) ?_
          refine PR_offF (by rfl) (by rfl) (by rfl) (by exact wn2 rfl rfl rfl rfl) ?_
          refine PR_offF (by rfl) (by rfl) (by rfl) (by exact wn2 rfl rfl rfl rfl) ?_
          refine PR_free (by rfl) (by rfl) (by rfl) (by exact wn0 rfl) (fun wS => (x_pick_t (v := .bool true) (by rfl) (by rfl))) ?_
          refine PR_nil ?_
          exact ⟨⟨congrArg Value.bool (Option.some.inj hm), rfl, rfl, rfl, rfl, rfl, trivial⟩, H⟩
        ·rintro r' w' ⟨hA, H⟩
         obtain ⟨r184, rfl⟩ := regen _ hA; clear hA
         obtain ⟨w185, rfl⟩ : ∃ W : World, W = w' := ⟨_, rfl⟩
         show PR _ _ _ _ _ _ _ _
         refine PR_free (by rfl) (by rfl) (by rfl) (by exact wn0 rfl) (fun wS => (x_move (v := .bool b183) (by rfl))) ?_
         obtain ⟨b186, hmS, hm⟩ := bind_some hm
         refine PR_cut 6 (fun r' w' => Agr [(104, .bool b186), (3, .pointer (some ⟨b21, 0, none⟩)), (4, .pointer (some ⟨b23, 0, none⟩)), (7, .pointer (some ⟨b57, 0, none⟩)), (8, .pointer (some ⟨b59, 0, none⟩)), (9, .pointer (some ⟨b143, 0, none⟩))] r' ∧ Sep ok w w' [.blk b21 25 [.int .i64 a0.W, .int .i64 a0.H, .slice A1 a0.Color.length cp2, .slice A5 a0.Depth.length cp6, .slice A9 a0.Item.length cp10, .slice A13 a0.Tri.length cp14], .blk b23 28 [.slice A17 a1.Levels.length cp18], .blk b25 32 [.int .i64 a2.Rect.X0, .int .i64 a2.Rect.Y0, .int .i64 a2.Rect.X1, .int .i64 a2.Rect.Y1, .int .i64 a2.D], .blk b57 25 [.int .i64 v37.W, .int .i64 v37.H, .slice A39 v37.Color.length cp40, .slice A42 v37.Depth.length cp43, .slice A45 v37.Item.length cp46, .slice A48 v37.Tri.length cp49], .blk b59 28 [.slice A54 v52.Levels.length cp55], .blk b143 28 [.slice A140 v138.1.Levels.length cp141], .blk b152 28 [.slice A149 v147.1.Levels.length cp150]] [RE.rd k_Ar4_Int A1 cp2 a0.Color, RE.rd kInt A5 cp6 a0.Depth, RE.rd kInt A9 cp10 a0.Item, RE.rd kInt A13 cp14 a0.Tri, RE.rd k_Level A17 cp18 a1.Levels, RE.rd k_Ar4_Int A39 cp40 v37.Color, RE.rd kInt A42 cp43 v37.Depth, RE.rd kInt A45 cp46 v37.Item, RE.rd kInt A48 cp49 v37.Tri, RE.rd k_Level A54 cp55 v52.Levels, RE.lt w136.heap.size k_Ar4_Int A1 cp2 a0.Color, RE.lt w136.heap.size kInt A5 cp6 a0.Depth, RE.lt w136.heap.size kInt A9 cp10 a0.Item, RE.lt w136.heap.size kInt A13 cp14 a0.Tri, RE.lt w136.heap.size k_Level A17 cp18 a1.Levels, RE.lt w136.heap.size k_Ar4_Int A39 cp40 v37.Color, RE.lt w136.heap.size kInt A42 cp43 v37.Depth, RE.lt w136.heap.size kInt A45 cp46 v37.Item, RE.lt w136.heap.size kInt A48 cp49 v37.Tri, RE.lt w136.heap.size k_Level A54 cp55 v52.Levels, RE.fr w136.heap.size k_Level A140 cp141 v138.1.Levels, RE.rd k_Level A140 cp141 v138.1.Levels, RE.rd k_Level A149 cp150 v147.1.Levels]) ?_ ?_
         ·cases hbS : b183
          ·have hm := cond_f hbS hmS
           refine PR_take (by rfl) (by rfl) (by rfl) (by exact wn1 rfl rfl rfl rfl) (fun wS (H : Sep ok w wS [.blk b21 25 [.int .i64 a0.W, .int .i64 a0.H, .slice A1 a0.Color.length cp2, .slice A5 a0.Depth.length cp6, .slice A9 a0.Item.length cp10, .slice A13 a0.Tri.length cp14], .blk b23 28 [.slice A17 a1.Levels.length cp18], .blk b25 32 [.int .i64 a2.Rect.X0, .int .i64 a2.Rect.Y0, .int .i64 a2.Rect.X1, .int .i64 a2.Rect.Y1, .int .i64 a2.D], .blk b57 25 [.int .i64 v37.W, .int .i64 v37.H, .slice A39 v37.Color.length cp40, .slice A42 v37.Depth.length cp43, .slice A45 v37.Item.length cp46, .slice A48 v37.Tri.length cp49], .blk b59 28 [.slice A54 v52.Levels.length cp55], .blk b143 28 [.slice A140 v138.1.Levels.length cp141], .blk b152 28 [.slice A149 v147.1.Levels.length cp150]] [RE.rd k_Ar4_Int A1 cp2 a0.Color, RE.rd kInt A5 cp6 a0.Depth, RE.rd kInt A9 cp10 a0.Item, RE.rd kInt A13 cp14 a0.Tri, RE.rd k_Level A17 cp18 a1.Levels, RE.rd k_Ar4_Int A39 cp40 v37.Color, RE.rd kInt A42 cp43 v37.Depth, RE.rd kInt A45 cp46 v37.Item, RE.rd kInt A48 cp49 v37.Tri, RE.rd k_Level A54 cp55 v52.Levels, RE.lt w136.heap.size k_Ar4_Int A1 cp2 a0.Color, RE.lt w136.heap.size kInt A5 cp6 a0.Depth, RE.lt w136.heap.size kInt A9 cp10 a0.Item, RE.lt w136.heap.size kInt A13 cp14 a0.Tri, RE.lt w136.heap.size k_Level A17 cp18 a1.Levels, RE.lt w136.heap.size k_Ar4_Int A39 cp40 v37.Color, RE.lt w136.heap.size kInt A42 cp43 v37.Depth, RE.lt w136.heap.size kInt A45 cp46 v37.Item, RE.lt w136.heap.size kInt A48 cp49 v37.Tri, RE.lt w136.heap.size k_Level A54 cp55 v52.Levels, RE.fr w136.heap.size k_Level A140 cp141 v138.1.Levels, RE.rd k_Level A140 cp141 v138.1.Levels, RE.rd k_Level A149 cp150 v147.1.Levels]) => (x_loadA (j := 0) (vs := [.slice A54 v52.Levels.length cp55]) ag28 (by rfl) (H.cells (i := 4) (by rfl)) (by rfl) (by rfl))) ?_
           refine PR_take (by rfl) (by rfl) (by rfl) (by exact wn1 rfl rfl rfl rfl) (fun wS (H : Sep ok w wS [.blk b21 25 [.int .i64 a0.W, .int .i64 a0.H, .slice A1 a0.Color.length cp2, .slice A5 a0.Depth.length cp6, .slice A9 a0.Item.length cp10, .slice A13 a0.Tri.length cp14], .blk b23 28 [.slice A17 a1.Levels.length cp18], .blk b25 32 [.int .i64 a2.Rect.X0, .int .i64 a2.Rect.Y0, .int .i64 a2.Rect.X1, .int .i64 a2.Rect.Y1, .int .i64 a2.D], .blk b57 25 [.int .i64 v37.W, .int .i64 v37.H, .slice A39 v37.Color.length cp40, .slice A42 v37.Depth.length cp43, .slice A45 v37.Item.length cp46, .slice A48 v37.Tri.length cp49], .blk b59 28 [.slice A54 v52.Levels.length cp55], .blk b143 28 [.slice A140 v138.1.Levels.length cp141], .blk b152 28 [.slice A149 v147.1.Levels.length cp150]] [RE.rd k_Ar4_Int A1 cp2 a0.Color, RE.rd kInt A5 cp6 a0.Depth, RE.rd kInt A9 cp10 a0.Item, RE.rd kInt A13 cp14 a0.Tri, RE.rd k_Level A17 cp18 a1.Levels, RE.rd k_Ar4_Int A39 cp40 v37.Color, RE.rd kInt A42 cp43 v37.Depth, RE.rd kInt A45 cp46 v37.Item, RE.rd kInt A48 cp49 v37.Tri, RE.rd k_Level A54 cp55 v52.Levels, RE.lt w136.heap.size k_Ar4_Int A1 cp2 a0.Color, RE.lt w136.heap.size kInt A5 cp6 a0.Depth, RE.lt w136.heap.size kInt A9 cp10 a0.Item, RE.lt w136.heap.size kInt A13 cp14 a0.Tri, RE.lt w136.heap.size k_Level A17 cp18 a1.Levels, RE.lt w136.heap.size k_Ar4_Int A39 cp40 v37.Color, RE.lt w136.heap.size kInt A42 cp43 v37.Depth, RE.lt w136.heap.size kInt A45 cp46 v37.Item, RE.lt w136.heap.size kInt A48 cp49 v37.Tri, RE.lt w136.heap.size k_Level A54 cp55 v52.Levels, RE.fr w136.heap.size k_Level A140 cp141 v138.1.Levels, RE.rd k_Level A140 cp141 v138.1.Levels, RE.rd k_Level A149 cp150 v147.1.Levels]) => (x_loadA (j := 0) (vs := [.slice A17 a1.Levels.length cp18]) ag28 (by rfl) (H.cells (i := 1) (by rfl)) (by rfl) (by rfl))) ?_
           obtain ⟨v188, hv187, hm⟩ := bind_some hm
           refine PR_run (by rfl) (O_call (by exact wn1 rfl rfl rfl rfl) (by rfl) (by rfl) (x_callL (by rfl) (args := [.agg #[.slice A54 v52.Levels.length cp55]]) (by rfl) (cf22 _ _)) (c22 okT K w185 v52 A54 cp55 (H.rd (i := 9) (by rfl)).any v188 hv187) ?_)
           rintro e w189 ⟨rfl, H2⟩
           have H : Sep ok w w189 [.blk b21 25 [.int .i64 a0.W, .int .i64 a0.H, .slice A1 a0.Color.length cp2, .slice A5 a0.Depth.length cp6, .slice A9 a0.Item.length cp10, .slice A13 a0.Tri.length cp14], .blk b23 28 [.slice A17 a1.Levels.length cp18], .blk b25 32 [.int .i64 a2.Rect.X0, .int .i64 a2.Rect.Y0, .int .i64 a2.Rect.X1, .int .i64 a2.Rect.Y1, .int .i64 a2.D], .blk b57 25 [.int .i64 v37.W, .int .i64 v37.H, .slice A39 v37.Color.length cp40, .slice A42 v37.Depth.length cp43, .slice A45 v37.Item.length cp46, .slice A48 v37.Tri.length cp49], .blk b59 28 [.slice A54 v52.Levels.length cp55], .blk b143 28 [.slice A140 v138.1.Levels.length cp141], .blk b152 28 [.slice A149 v147.1.Levels.length cp150]] [RE.rd k_Ar4_Int A1 cp2 a0.Color, RE.rd kInt A5 cp6 a0.Depth, RE.rd kInt A9 cp10 a0.Item, RE.rd kInt A13 cp14 a0.Tri, RE.rd k_Level A17 cp18 a1.Levels, RE.rd k_Ar4_Int A39 cp40 v37.Color, RE.rd kInt A42 cp43 v37.Depth, RE.rd kInt A45 cp46 v37.Item, RE.rd kInt A48 cp49 v37.Tri, RE.rd k_Level A54 cp55 v52.Levels, RE.lt w136.heap.size k_Ar4_Int A1 cp2 a0.Color, RE.lt w136.heap.size kInt A5 cp6 a0.Depth, RE.lt w136.heap.size kInt A9 cp10 a0.Item, RE.lt w136.heap.size kInt A13 cp14 a0.Tri, RE.lt w136.heap.size k_Level A17 cp18 a1.Levels, RE.lt w136.heap.size k_Ar4_Int A39 cp40 v37.Color, RE.lt w136.heap.size kInt A42 cp43 v37.Depth, RE.lt w136.heap.size kInt A45 cp46 v37.Item, RE.lt w136.heap.size kInt A48 cp49 v37.Tri, RE.lt w136.heap.size k_Level A54 cp55 v52.Levels, RE.fr w136.heap.size k_Level A140 cp141 v138.1.Levels, RE.rd k_Level A140 cp141 v138.1.Levels, RE.rd k_Level A149 cp150 v147.1.Levels] := H.below H2.base
           clear H2
           refine ⟨_, rfl, H, ?_⟩
           show PR _ _ _ _ _ _ _ _
           obtain ⟨v191, hv190, hm⟩ := bind_some hm
           refine PR_run (by rfl) (O_call (by exact wn1 rfl rfl rfl rfl) (by rfl) (by rfl) (x_callL (by rfl) (args := [.agg #[.slice A17 a1.Levels.length cp18]]) (by rfl) (cf23 _ _)) (c23 okT K w189 a1 A17 cp18 (H.rd (i := 4) (by rfl)).any v191 hv190) ?_)
           rintro e w192 ⟨rfl, H2⟩
           have H : Sep ok w w192 [.blk b21 25 [.int .i64 a0.W, .int .i64 a0.H, .slice A1 a0.Color.length cp2, .slice A5 a0.Depth.length cp6, .slice A9 a0.Item.length cp10, .slice A13 a0.Tri.length cp14], .blk b23 28 [.slice A17 a1.Levels.length cp18], .blk b25 32 [.int .i64 a2.Rect.X0, .int .i64 a2.Rect.Y0, .int .i64 a2.Rect.X1, .int .i64 a2.Rect.Y1, .int .i64 a2.D], .blk b57 25 [.int .i64 v37.W, .int .i64 v37.H, .slice A39 v37.Color.length cp40, .slice A42 v37.Depth.length cp43, .slice A45 v37.Item.length cp46, .slice A48 v37.Tri.length cp49], .blk b59 28 [.slice A54 v52.Levels.length cp55], .blk b143 28 [.slice A140 v138.1.Levels.length cp141], .blk b152 28 [.slice A149 v147.1.Levels.length cp150]] [RE.rd k_Ar4_Int A1 cp2 a0.Color, RE.rd kInt A5 cp6 a0.Depth, RE.rd kInt A9 cp10 a0.Item, RE.rd kInt A13 cp14 a0.Tri, RE.rd k_Level A17 cp18 a1.Levels, RE.rd k_Ar4_Int A39 cp40 v37.Color, RE.rd kInt A42 cp43 v37.Depth, RE.rd kInt A45 cp46 v37.Item, RE.rd kInt A48 cp49 v37.Tri, RE.rd k_Level A54 cp55 v52.Levels, RE.lt w136.heap.size k_Ar4_Int A1 cp2 a0.Color, RE.lt w136.heap.size kInt A5 cp6 a0.Depth, RE.lt w136.heap.size kInt A9 cp10 a0.Item, RE.lt w136.heap.size kInt A13 cp14 a0.Tri, RE.lt w136.heap.size k_Level A17 cp18 a1.Levels, RE.lt w136.heap.size k_Ar4_Int A39 cp40 v37.Color, RE.lt w136.heap.size kInt A42 cp43 v37.Depth, RE.lt w136.heap.size kInt A45 cp46 v37.Item, RE.lt w136.heap.size kInt A48 cp49 v37.Tri, RE.lt w136.heap.size k_Level A54 cp55 v52.Levels, RE.fr w136.heap.size k_Level A140 cp141 v138.1.Levels, RE.rd k_Level A140 cp141 v138.1.Levels, RE.rd k_Level A149 cp150 v147.1.Levels] := H.below H2.base
           clear H2
           refine ⟨_, rfl, H, ?_⟩
           show PR _ _ _ _ _ _ _ _
           refine PR_free (by rfl) (by rfl) (by rfl) (by exact wn1 rfl rfl rfl rfl) (fun wS => (x_neq (by rfl) (by rfl))) ?_
           refine PR_free (by rfl) (by rfl) (by rfl) (by exact wn0 rfl) (fun wS => (x_pick_f (v := .bool (v188 != v191)) (by rfl) (by rfl))) ?_
           refine PR_nil ?_
           exact ⟨⟨congrArg Value.bool (Option.some.inj hm), rfl, rfl, rfl, rfl, rfl, trivial⟩, H⟩
          ·have hm := cond_t hbS hmS
           refine PR_off (by rfl) (by rfl) (by rfl) (by exact wn2 rfl rfl rfl rfl) ?_
           refine PR_off (by rfl) (by rfl) (by rfl) (by exact wn2 rfl rfl rfl rfl) ?_
           refine PR_run (by rfl) (OpR_off (by exact wn2 rfl rfl rfl rfl) (by rfl) (by rfl) ⟨H, ?_⟩)
           refine PR_run (by rfl) (OpR_off (by exact wn2 rfl rfl rfl rfl) (by rfl) (by rfl) ⟨H, ?_⟩)
           refine PR_offF (by rfl) (by rfl) (by rfl) (by exact wn2 rfl rfl rfl rfl) ?_
           refine PR_free (by rfl) (by rfl) (by rfl) (by exact wn0 rfl) (fun wS => (x_pick_t (v := .bool true) (by rfl) (by rfl))) ?_
           refine PR_nil ?_
           exact ⟨⟨congrArg Value.bool (Option.some.inj hm), rfl, rfl, rfl, rfl, rfl, trivial⟩, H⟩
         ·rintro r' w' ⟨hA, H⟩
          obtain ⟨r193, rfl⟩ := regen _ hA; clear hA
          obtain ⟨w194, rfl⟩ : ∃ W : World, W = w' := ⟨_, rfl⟩
          show PR _ _ _ _ _ _ _ _
          refine PR_nil ?_
          refine W_cond (by rfl) (fun hb => ?_) (fun hb => ?_)
          ·have hm := cond_t hb hm
           refine W_seq ?_
           refine W_region ?_
           refine RL_pure (by exact wn0 rfl) (by rfl) (by rfl) (x_assign (v := .bool false) (by rfl)) ?_
           refine RL_nil ?_
           refine W_ret ?_
           obtain rfl := Option.some.inj hm
           exact ⟨[.bool false], (.tmp (by rfl) rfl), rfl, H.none_⟩
          ·have hm := cond_f hb hm
           refine W_skip ?_
           refine W_seq ?_
           refine W_seq ?_
           refine W_region ?_
           refine RL_pure (by exact wn0 rfl) (by rfl) (by rfl) (x_assign (v := .int .i64 0) (by rfl)) ?_
           refine RL_nil ?_
           have H := (H.alsoFrMap (K := k_Level) (K' := kLevS) (fun x : S_Level => units x.Low) rfl (by rintro w ok cs x ⟨A, c, rfl, h⟩; refine ⟨A, c, x.W, x.H, by simp [units], ?_⟩; exact h.map (fun _ => ()) rfl (by rintro cs y rfl; exact ⟨y, rfl⟩)) (i := 20) (by rfl)).pick [10, 11, 12, 13, 14, 15, 16, 17, 18, 19, 23]
           have hus : (v138.1.Levels.map fun x => units x.Low).length = v138.1.Levels.length := by simp
           have H : Sep ok w w194 [.blk b21 25 [.int .i64 a0.W, .int .i64 a0.H, .slice A1 a0.Color.length cp2, .slice A5 a0.Depth.length cp6, .slice A9 a0.Item.length cp10, .slice A13 a0.Tri.length cp14], .blk b23 28 [.slice A17 a1.Levels.length cp18], .blk b25 32 [.int .i64 a2.Rect.X0, .int .i64 a2.Rect.Y0, .int .i64 a2.Rect.X1, .int .i64 a2.Rect.Y1, .int .i64 a2.D], .blk b57 25 [.int .i64 v37.W, .int .i64 v37.H, .slice A39 v37.Color.length cp40, .slice A42 v37.Depth.length cp43, .slice A45 v37.Item.length cp46, .slice A48 v37.Tri.length cp49], .blk b59 28 [.slice A54 v52.Levels.length cp55], .blk b143 28 [.slice A140 (v138.1.Levels.map fun x => units x.Low).length cp141], .blk b152 28 [.slice A149 v147.1.Levels.length cp150]] [RE.lt w136.heap.size k_Ar4_Int A1 cp2 a0.Color, RE.lt w136.heap.size kInt A5 cp6 a0.Depth, RE.lt w136.heap.size kInt A9 cp10 a0.Item, RE.lt w136.heap.size kInt A13 cp14 a0.Tri, RE.lt w136.heap.size k_Level A17 cp18 a1.Levels, RE.lt w136.heap.size k_Ar4_Int A39 cp40 v37.Color, RE.lt w136.heap.size kInt A42 cp43 v37.Depth, RE.lt w136.heap.size kInt A45 cp46 v37.Item, RE.lt w136.heap.size kInt A48 cp49 v37.Tri, RE.lt w136.heap.size k_Level A54 cp55 v52.Levels, RE.fr w136.heap.size kLevS A140 cp141 (v138.1.Levels.map fun x => units x.Low)] := by rw [hus]; exact H
           refine W_block ?_
           refine W_loop (fun k1 r' w' => ∃ (y21_1 : Int), m3_l1 K a0 a1 v37 v52 v138 k1 y21_1 = some res ∧ Agr [(3, .pointer (some ⟨b21, 0, none⟩)), (4, .pointer (some ⟨b23, 0, none⟩)), (7, .pointer (some ⟨b57, 0, none⟩)), (8, .pointer (some ⟨b59, 0, none⟩)), (9, .pointer (some ⟨b143, 0, none⟩)), (21, .int .i64 y21_1)] r' ∧ Sep ok w w' [.blk b21 25 [.int .i64 a0.W, .int .i64 a0.H, .slice A1 a0.Color.length cp2, .slice A5 a0.Depth.length cp6, .slice A9 a0.Item.length cp10, .slice A13 a0.Tri.length cp14], .blk b23 28 [.slice A17 a1.Levels.length cp18], .blk b25 32 [.int .i64 a2.Rect.X0, .int .i64 a2.Rect.Y0, .int .i64 a2.Rect.X1, .int .i64 a2.Rect.Y1, .int .i64 a2.D], .blk b57 25 [.int .i64 v37.W, .int .i64 v37.H, .slice A39 v37.Color.length cp40, .slice A42 v37.Depth.length cp43, .slice A45 v37.Item.length cp46, .slice A48 v37.Tri.length cp49], .blk b59 28 [.slice A54 v52.Levels.length cp55], .blk b143 28 [.slice A140 (v138.1.Levels.map fun x => units x.Low).length cp141], .blk b152 28 [.slice A149 v147.1.Levels.length cp150]] [RE.lt w136.heap.size k_Ar4_Int A1 cp2 a0.Color, RE.lt w136.heap.size kInt A5 cp6 a0.Depth, RE.lt w136.heap.size kInt A9 cp10 a0.Item, RE.lt w136.heap.size kInt A13 cp14 a0.Tri, RE.lt w136.heap.size k_Level A17 cp18 a1.Levels, RE.lt w136.heap.size k_Ar4_Int A39 cp40 v37.Color, RE.lt w136.heap.size kInt A42 cp43 v37.Depth, RE.lt w136.heap.size kInt A45 cp46 v37.Item, RE.lt w136.heap.size kInt A48 cp49 v37.Tri, RE.lt w136.heap.size k_Level A54 cp55 v52.Levels, RE.fr w136.heap.size kLevS A140 cp141 (v138.1.Levels.map fun x => units x.Low)]) K ?_ ?_
           ·exact ⟨0, hm, ⟨rfl, rfl, rfl, rfl, rfl, rfl, trivial⟩, H⟩
           ·rintro k1 r' w' ⟨y21_1, hm, hA, H⟩
            obtain ⟨r195, rfl⟩ := regen _ hA; clear hA
            obtain ⟨w196, rfl⟩ : ∃ W : World, W = w' := ⟨_, rfl⟩
            cases k1 with
            | zero => exact (none_some hm).elim
            | succ k1 =>
             have hm : m3_l1b K a0 a1 v37 v52 v138 (m3_l1 K a0 a1 v37 v52 v138 k1) y21_1 = some res := hm
             unfold m3_l1b at hm
             obtain ⟨rec1, hrec1⟩ : ∃ f, m3_l1 K a0 a1 v37 v52 v138 k1 = f := ⟨_, rfl⟩
             rw [hrec1] at hm
             refine W_seq ?_
             refine W_seq ?_
             refine W_region ?_
             refine RL_pure (by exact wn0 rfl) (by rfl) (by rfl) (x_move (v := .int .i64 y21_1) (by rfl)) ?_
             refine RL_pure (by exact wn0 rfl) (by rfl) (by rfl) (x_fieldAddr fo28_0 (by rfl)) ?_
             refine RL_pure (by exact wn0 rfl) (by rfl) (by rfl) (x_load (j := 0) (v := .slice A140 (v138.1.Levels.map fun x => units x.Low).length cp141) sc26 (by rfl) (H.cells (i := 5) (by rfl)) (by rfl)) ?_
             refine RL_pure (by exact wn0 rfl) (by rfl) (by rfl) (x_len sl26 (by rfl)) ?_
             refine RL_pure (by exact wn0 rfl) (by rfl) (by rfl) (x_lss (by rfl) (by rfl)) ?_
             refine RL_nil ?_
             refine W_cond (by rfl) (fun hb => ?_) (fun hb => ?_)
             ·have hm := cond_t hb hm
              refine W_skip ?_
              refine W_seq ?_
              refine W_block ?_
              refine W_seq ?_
              refine W_region ?_
              refine RL_pure (by exact wn0 rfl) (by rfl) (by rfl) (x_assign (v := .int .i64 0) (by rfl)) ?_
              refine RL_nil ?_
              refine W_block ?_
              refine W_loop (fun k2 r' w' => ∃ (y22_2 : Int), m3_l2 K v138 y21_1 rec1 k2 y22_2 = some res ∧ Agr [(3, .pointer (some ⟨b21, 0, none⟩)), (4, .pointer (some ⟨b23, 0, none⟩)), (7, .pointer (some ⟨b57, 0, none⟩)), (8, .pointer (some ⟨b59, 0, none⟩)), (9, .pointer (some ⟨b143, 0, none⟩)), (21, .int .i64 y21_1), (22, .int .i64 y22_2)] r' ∧ Sep ok w w' [.blk b21 25 [.int .i64 a0.W, .int .i64 a0.H, .slice A1 a0.Color.length cp2, .slice A5 a0.Depth.length cp6, .slice A9 a0.Item.length cp10, .slice A13 a0.Tri.length cp14], .blk b23 28 [.slice A17 a1.Levels.length cp18], .blk b25 32 [.int .i64 a2.Rect.X0, .int .i64 a2.Rect.Y0, .int .i64 a2.Rect.X1, .int .i64 a2.Rect.Y1, .int .i64 a2.D], .blk b57 25 [.int .i64 v37.W, .int .i64 v37.H, .slice A39 v37.Color.length cp40, .slice A42 v37.Depth.length cp43, .slice A45 v37.Item.length cp46, .slice A48 v37.Tri.length cp49], .blk b59 28 [.slice A54 v52.Levels.length cp55], .blk b143 28 [.slice A140 (v138.1.Levels.map fun x => units x.Low).length cp141], .blk b152 28 [.slice A149 v147.1.Levels.length cp150]] [RE.lt w136.heap.size k_Ar4_Int A1 cp2 a0.Color, RE.lt w136.heap.size kInt A5 cp6 a0.Depth, RE.lt w136.heap.size kInt A9 cp10 a0.Item, RE.lt w136.heap.size kInt A13 cp14 a0.Tri, RE.lt w136.heap.size k_Level A17 cp18 a1.Levels, RE.lt w136.heap.size k_Ar4_Int A39 cp40 v37.Color, RE.lt w136.heap.size kInt A42 cp43 v37.Depth, RE.lt w136.heap.size kInt A45 cp46 v37.Item, RE.lt w136.heap.size kInt A48 cp49 v37.Tri, RE.lt w136.heap.size k_Level A54 cp55 v52.Levels, RE.fr w136.heap.size kLevS A140 cp141 (v138.1.Levels.map fun x => units x.Low)]) K ?_ ?_
              ·exact ⟨0, hm, ⟨rfl, rfl, rfl, rfl, rfl, rfl, rfl, trivial⟩, H⟩
              ·rintro k2 r' w' ⟨y22_2, hm, hA, H⟩
               obtain ⟨r197, rfl⟩ := regen _ hA; clear hA
               obtain ⟨w198, rfl⟩ : ∃ W : World, W = w' := ⟨_, rfl⟩
               cases k2 with
               | zero => exact (none_some hm).elim
               | succ k2 =>
                have hm : m3_l2b K v138 y21_1 rec1 (m3_l2 K v138 y21_1 rec1 k2) y22_2 = some res := hm
                unfold m3_l2b at hm
                obtain ⟨rec2, hrec2⟩ : ∃ f, m3_l2 K v138 y21_1 rec1 k2 = f := ⟨_, rfl⟩
                rw [hrec2] at hm
                refine W_seq ?_
                refine W_seq ?_
                refine W_region ?_
                refine RL_pure (by exact wn0 rfl) (by rfl) (by rfl) (x_move (v := .int .i64 y22_2) (by rfl)) ?_
                refine RL_pure (by exact wn0 rfl) (by rfl) (by rfl) (x_fieldAddr fo28_0 (by rfl)) ?_
                refine RL_pure (by exact wn0 rfl) (by rfl) (by rfl) (x_load (j := 0) (v := .slice A140 (v138.1.Levels.map fun x => units x.Low).length cp141) sc26 (by rfl) (H.cells (i := 5) (by rfl)) (by rfl)) ?_
                refine RL_pure (by exact wn0 rfl) (by rfl) (by rfl) (x_move (v := .int .i64 y21_1) (by rfl)) ?_
                obtain ⟨el199, h200, h201, he202, hm⟩ := idx_some hm
                obtain ⟨g204, o205, hA203⟩ := (H.frRd (i := 10) (by rfl)).addr he202
                obtain ⟨cs206, hk207, hat208, hg209⟩ := (H.frRd (i := 10) (by rfl)).openAt hA203 he202
                obtain ⟨A210, cp211, z214, z215, rfl, hR212⟩ := hk207
                have H : Sep ok w w198 [.blk b21 25 [.int .i64 a0.W, .int .i64 a0.H, .slice A1 a0.Color.length cp2, .slice A5 a0.Depth.length cp6, .slice A9 a0.Item.length cp10, .slice A13 a0.Tri.length cp14], .blk b23 28 [.slice A17 a1.Levels.length cp18], .blk b25 32 [.int .i64 a2.Rect.X0, .int .i64 a2.Rect.Y0, .int .i64 a2.Rect.X1, .int .i64 a2.Rect.Y1, .int .i64 a2.D], .blk b57 25 [.int .i64 v37.W, .int .i64 v37.H, .slice A39 v37.Color.length cp40, .slice A42 v37.Depth.length cp43, .slice A45 v37.Item.length cp46, .slice A48 v37.Tri.length cp49], .blk b59 28 [.slice A54 v52.Levels.length cp55], .blk b143 28 [.slice A140 (v138.1.Levels.map fun x => units x.Low).length cp141], .blk b152 28 [.slice A149 v147.1.Levels.length cp150]] [RE.lt w136.heap.size k_Ar4_Int A1 cp2 a0.Color, RE.lt w136.heap.size kInt A5 cp6 a0.Depth, RE.lt w136.heap.size kInt A9 cp10 a0.Item, RE.lt w136.heap.size kInt A13 cp14 a0.Tri, RE.lt w136.heap.size k_Level A17 cp18 a1.Levels, RE.lt w136.heap.size k_Ar4_Int A39 cp40 v37.Color, RE.lt w136.heap.size kInt A42 cp43 v37.Depth, RE.lt w136.heap.size kInt A45 cp46 v37.Item, RE.lt w136.heap.size kInt A48 cp49 v37.Tri, RE.lt w136.heap.size k_Level A54 cp55 v52.Levels, RE.fr w136.heap.size kLevS A140 cp141 (v138.1.Levels.map fun x => units x.Low), RE.cells g204 (o205 + (y21_1).toNat * 3) [.int .i64 z214, .int .i64 z215, .slice A210 el199.length cp211]] := Sep.also H (re := RE.cells g204 (o205 + (y21_1).toNat * 3) [.int .i64 z214, .int .i64 z215, .slice A210 el199.length cp211]) ⟨hg209.ofFr, hat208⟩
                have H : Sep ok w w198 [.blk b21 25 [.int .i64 a0.W, .int .i64 a0.H, .slice A1 a0.Color.length cp2, .slice A5 a0.Depth.length cp6, .slice A9 a0.Item.length cp10, .slice A13 a0.Tri.length cp14], .blk b23 28 [.slice A17 a1.Levels.length cp18], .blk b25 32 [.int .i64 a2.Rect.X0, .int .i64 a2.Rect.Y0, .int .i64 a2.Rect.X1, .int .i64 a2.Rect.Y1, .int .i64 a2.D], .blk b57 25 [.int .i64 v37.W, .int .i64 v37.H, .slice A39 v37.Color.length cp40, .slice A42 v37.Depth.length cp43, .slice A45 v37.Item.length cp46, .slice A48 v37.Tri.length cp49], .blk b59 28 [.slice A54 v52.Levels.length cp55], .blk b143 28 [.slice A140 (v138.1.Levels.map fun x => units x.Low).length cp141], .blk b152 28 [.slice A149 v147.1.Levels.length cp150]] [RE.lt w136.heap.size k_Ar4_Int A1 cp2 a0.Color, RE.lt w136.heap.size kInt A5 cp6 a0.Depth, RE.lt w136.heap.size kInt A9 cp10 a0.Item, RE.lt w136.heap.size kInt A13 cp14 a0.Tri, RE.lt w136.heap.size k_Level A17 cp18 a1.Levels, RE.lt w136.heap.size k_Ar4_Int A39 cp40 v37.Color, RE.lt w136.heap.size kInt A42 cp43 v37.Depth, RE.lt w136.heap.size kInt A45 cp46 v37.Item, RE.lt w136.heap.size kInt A48 cp49 v37.Tri, RE.lt w136.heap.size k_Level A54 cp55 v52.Levels, RE.fr w136.heap.size kLevS A140 cp141 (v138.1.Levels.map fun x => units x.Low), RE.cells g204 (o205 + (y21_1).toNat * 3) [.int .i64 z214, .int .i64 z215, .slice A210 el199.length cp211], RE.fr w136.heap.size kAny A210 cp211 el199] := Sep.also H (re := RE.fr w136.heap.size kAny A210 cp211 el199) hR212
                refine RL_pure (by exact wn0 rfl) (by rfl) (by rfl) (x_indexAddr sl26 sz54 (by rfl) (by rfl) hA203 h200 h201) ?_
                refine RL_pure (by exact wn0 rfl) (by rfl) (by rfl) (x_fieldAddr fo54_2 (by rfl)) ?_
                refine RL_pure (by exact wn0 rfl) (by rfl) (by rfl) (x_load (j := 2) (v := .slice A210 el199.length cp211) sc23 (by rfl) (H.cellsR (i := 11) (by rfl)) (by rfl)) ?_
                refine RL_pure (by exact wn0 rfl) (by rfl) (by rfl) (x_len sl23 (by rfl)) ?_
                refine RL_pure (by exact wn0 rfl) (by rfl) (by rfl) (x_lss (by rfl) (by rfl)) ?_
                refine RL_nil ?_
                refine W_cond (by rfl) (fun hb => ?_) (fun hb => ?_)
                ·have hm := cond_t hb hm
                 refine W_skip ?_
                 refine W_seq ?_
                 refine W_block ?_
                 refine W_region ?_
                 refine RL_pure (by exact wn0 rfl) (by rfl) (by rfl) (x_fieldAddr fo28_0 (by rfl)) ?_
                 refine RL_pure (by exact wn0 rfl) (by rfl) (by rfl) (x_load (j := 0) (v := .slice A140 (v138.1.Levels.map fun x => units x.Low).length cp141) sc26 (by rfl) (H.cells (i := 5) (by rfl)) (by rfl)) ?_
                 refine RL_pure (by exact wn0 rfl) (by rfl) (by rfl) (x_move (v := .int .i64 y21_1) (by rfl)) ?_
                 obtain ⟨el217, h218, h219, he220, hm⟩ := idx_some hm
                 obtain ⟨g222, o223, hA221⟩ := (H.frRd (i := 10) (by rfl)).addr he220
                 obtain ⟨cs224, hk225, hat226, hg227⟩ := (H.frRd (i := 10) (by rfl)).openAt hA221 he220
                 obtain ⟨A228, cp229, z232, z233, rfl, hR230⟩ := hk225
                 have H : Sep ok w w198 [.blk b21 25 [.int .i64 a0.W, .int .i64 a0.H, .slice A1 a0.Color.length cp2, .slice A5 a0.Depth.length cp6, .slice A9 a0.Item.length cp10, .slice A13 a0.Tri.length cp14], .blk b23 28 [.slice A17 a1.Levels.length cp18], .blk b25 32 [.int .i64 a2.Rect.X0, .int .i64 a2.Rect.Y0, .int .i64 a2.Rect.X1, .int .i64 a2.Rect.Y1, .int .i64 a2.D], .blk b57 25 [.int .i64 v37.W, .int .i64 v37.H, .slice A39 v37.Color.length cp40, .slice A42 v37.Depth.length cp43, .slice A45 v37.Item.length cp46, .slice A48 v37.Tri.length cp49], .blk b59 28 [.slice A54 v52.Levels.length cp55], .blk b143 28 [.slice A140 (v138.1.Levels.map fun x => units x.Low).length cp141], .blk b152 28 [.slice A149 v147.1.Levels.length cp150]] [RE.lt w136.heap.size k_Ar4_Int A1 cp2 a0.Color, RE.lt w136.heap.size kInt A5 cp6 a0.Depth, RE.lt w136.heap.size kInt A9 cp10 a0.Item, RE.lt w136.heap.size kInt A13 cp14 a0.Tri, RE.lt w136.heap.size k_Level A17 cp18 a1.Levels, RE.lt w136.heap.size k_Ar4_Int A39 cp40 v37.Color, RE.lt w136.heap.size kInt A42 cp43 v37.Depth, RE.lt w136.heap.size kInt A45 cp46 v37.Item, RE.lt w136.heap.size kInt A48 cp49 v37.Tri, RE.lt w136.heap.size k_Level A54 cp55 v52.Levels, RE.fr w136.heap.size kLevS A140 cp141 (v138.1.Levels.map fun x => units x.Low), RE.cells g204 (o205 + (y21_1).toNat * 3) [.int .i64 z214, .int .i64 z215, .slice A210 el199.length cp211], RE.fr w136.heap.size kAny A210 cp211 el199, RE.cells g222 (o223 + (y21_1).toNat * 3) [.int .i64 z232, .int .i64 z233, .slice A228 el217.length cp229]] := Sep.also H (re := RE.cells g222 (o223 + (y21_1).toNat * 3) [.int .i64 z232, .int .i64 z233, .slice A228 el217.length cp229]) ⟨hg227.ofFr, hat226⟩
                 have H : Sep ok w w198 [.blk b21 25 [.int .i64 a0.W, .int .i64 a0.H, .slice A1 a0.Color.length cp2, .slice A5 a0.Depth.length cp6, .slice A9 a0.Item.length cp10, .slice A13 a0.Tri.length cp14], .blk b23 28 [.slice A17 a1.Levels.length cp18], .blk b25 32 [.int .i64 a2.Rect.X0, .int .i64 a2.Rect.Y0, .int .i64 a2.Rect.X1, .int .i64 a2.Rect.Y1, .int .i64 a2.D], .blk b57 25 [.int .i64 v37.W, .int .i64 v37.H, .slice A39 v37.Color.length cp40, .slice A42 v37.Depth.length cp43, .slice A45 v37.Item.length cp46, .slice A48 v37.Tri.length cp49], .blk b59 28 [.slice A54 v52.Levels.length cp55], .blk b143 28 [.slice A140 (v138.1.Levels.map fun x => units x.Low).length cp141], .blk b152 28 [.slice A149 v147.1.Levels.length cp150]] [RE.lt w136.heap.size k_Ar4_Int A1 cp2 a0.Color, RE.lt w136.heap.size kInt A5 cp6 a0.Depth, RE.lt w136.heap.size kInt A9 cp10 a0.Item, RE.lt w136.heap.size kInt A13 cp14 a0.Tri, RE.lt w136.heap.size k_Level A17 cp18 a1.Levels, RE.lt w136.heap.size k_Ar4_Int A39 cp40 v37.Color, RE.lt w136.heap.size kInt A42 cp43 v37.Depth, RE.lt w136.heap.size kInt A45 cp46 v37.Item, RE.lt w136.heap.size kInt A48 cp49 v37.Tri, RE.lt w136.heap.size k_Level A54 cp55 v52.Levels, RE.fr w136.heap.size kLevS A140 cp141 (v138.1.Levels.map fun x => units x.Low), RE.cells g204 (o205 + (y21_1).toNat * 3) [.int .i64 z214, .int .i64 z215, .slice A210 el199.length cp211], RE.fr w136.heap.size kAny A210 cp211 el199, RE.cells g222 (o223 + (y21_1).toNat * 3) [.int .i64 z232, .int .i64 z233, .slice A228 el217.length cp229], RE.fr w136.heap.size kAny A228 cp229 el217] := Sep.also H (re := RE.fr w136.heap.size kAny A228 cp229 el217) hR230
                 refine RL_pure (by exact wn0 rfl) (by rfl) (by rfl) (x_indexAddr sl26 sz54 (by rfl) (by rfl) hA221 h218 h219) ?_
                 refine RL_pure (by exact wn0 rfl) (by rfl) (by rfl) (x_fieldAddr fo54_2 (by rfl)) ?_
                 refine RL_pure (by exact wn0 rfl) (by rfl) (by rfl) (x_load (j := 2) (v := .slice A228 el217.length cp229) sc23 (by rfl) (H.cellsR (i := 13) (by rfl)) (by rfl)) ?_
                 refine RL_pure (by exact wn0 rfl) (by rfl) (by rfl) (x_move (v := .int .i64 y22_2) (by rfl)) ?_
                 obtain ⟨el235, h236, h237, he238, hm⟩ := idx_some hm
                 obtain ⟨g240, o241, hA239⟩ := (H.frRd (i := 14) (by rfl)).addr he238
                 obtain ⟨cs242, hk243, hat244, hg245⟩ := (H.frRd (i := 14) (by rfl)).openAt hA239 he238
                 obtain ⟨z246, rfl⟩ := hk243
                 refine RL_pure (by exact wn0 rfl) (by rfl) (by rfl) (x_indexAddr sl23 sz3 (by rfl) (by rfl) hA239 h236 h237) ?_
                 have H : Sep ok w w198 [.blk b21 25 [.int .i64 a0.W, .int .i64 a0.H, .slice A1 a0.Color.length cp2, .slice A5 a0.Depth.length cp6, .slice A9 a0.Item.length cp10, .slice A13 a0.Tri.length cp14], .blk b23 28 [.slice A17 a1.Levels.length cp18], .blk b25 32 [.int .i64 a2.Rect.X0, .int .i64 a2.Rect.Y0, .int .i64 a2.Rect.X1, .int .i64 a2.Rect.Y1, .int .i64 a2.D], .blk b57 25 [.int .i64 v37.W, .int .i64 v37.H, .slice A39 v37.Color.length cp40, .slice A42 v37.Depth.length cp43, .slice A45 v37.Item.length cp46, .slice A48 v37.Tri.length cp49], .blk b59 28 [.slice A54 v52.Levels.length cp55], .blk b143 28 [.slice A140 (v138.1.Levels.map fun x => units x.Low).length cp141], .blk b152 28 [.slice A149 v147.1.Levels.length cp150]] [RE.lt w136.heap.size k_Ar4_Int A1 cp2 a0.Color, RE.lt w136.heap.size kInt A5 cp6 a0.Depth, RE.lt w136.heap.size kInt A9 cp10 a0.Item, RE.lt w136.heap.size kInt A13 cp14 a0.Tri, RE.lt w136.heap.size k_Level A17 cp18 a1.Levels, RE.lt w136.heap.size k_Ar4_Int A39 cp40 v37.Color, RE.lt w136.heap.size kInt A42 cp43 v37.Depth, RE.lt w136.heap.size kInt A45 cp46 v37.Item, RE.lt w136.heap.size kInt A48 cp49 v37.Tri, RE.lt w136.heap.size k_Level A54 cp55 v52.Levels, RE.fr w136.heap.size kLevS A140 cp141 (v138.1.Levels.map fun x => units x.Low)] := H.takeR 11
                 refine RL_cons (O_storeNum (m := w136.heap.size) (by exact wn0 rfl) (by rfl) (by rfl) sz3 (hat244 0 _ (by rfl)) H hg245 hm0 (by exact ⟨Rob.lt, ⟨Rob.lt, ⟨Rob.lt, ⟨Rob.lt, ⟨Rob.lt, ⟨Rob.lt, ⟨Rob.lt, ⟨Rob.lt, ⟨Rob.lt, ⟨Rob.lt, ⟨Rob.fr kLevS_shp, trivial⟩⟩⟩⟩⟩⟩⟩⟩⟩⟩⟩) (fun w248 (H : Sep ok w w248 [.blk b21 25 [.int .i64 a0.W, .int .i64 a0.H, .slice A1 a0.Color.length cp2, .slice A5 a0.Depth.length cp6, .slice A9 a0.Item.length cp10, .slice A13 a0.Tri.length cp14], .blk b23 28 [.slice A17 a1.Levels.length cp18], .blk b25 32 [.int .i64 a2.Rect.X0, .int .i64 a2.Rect.Y0, .int .i64 a2.Rect.X1, .int .i64 a2.Rect.Y1, .int .i64 a2.D], .blk b57 25 [.int .i64 v37.W, .int .i64 v37.H, .slice A39 v37.Color.length cp40, .slice A42 v37.Depth.length cp43, .slice A45 v37.Item.length cp46, .slice A48 v37.Tri.length cp49], .blk b59 28 [.slice A54 v52.Levels.length cp55], .blk b143 28 [.slice A140 (v138.1.Levels.map fun x => units x.Low).length cp141], .blk b152 28 [.slice A149 v147.1.Levels.length cp150]] [RE.lt w136.heap.size k_Ar4_Int A1 cp2 a0.Color, RE.lt w136.heap.size kInt A5 cp6 a0.Depth, RE.lt w136.heap.size kInt A9 cp10 a0.Item, RE.lt w136.heap.size kInt A13 cp14 a0.Tri, RE.lt w136.heap.size k_Level A17 cp18 a1.Levels, RE.lt w136.heap.size k_Ar4_Int A39 cp40 v37.Color, RE.lt w136.heap.size kInt A42 cp43 v37.Depth, RE.lt w136.heap.size kInt A45 cp46 v37.Item, RE.lt w136.heap.size kInt A48 cp49 v37.Tri, RE.lt w136.heap.size k_Level A54 cp55 v52.Levels, RE.fr w136.heap.size kLevS A140 cp141 (v138.1.Levels.map fun x => units x.Low)]) => ?_))
                 refine RL_nil ?_
                 refine W_region ?_
                 refine RL_pure (by exact wn0 rfl) (by rfl) (by rfl) (x_move (v := .int .i64 y22_2) (by rfl)) ?_
                 obtain ⟨x249, ex249, qx249, ux249, hm⟩ := ck_some hm
                 refine RL_pure (by exact wn0 rfl) (by rfl) (by rfl) (x_add (by rfl) (by rfl) ux249) ?_
                 refine RL_pure (by exact wn0 rfl) (by rfl) (by rfl) (x_assign (v := .int .i64 x249) (by rfl)) ?_
                 refine RL_nil ?_
                 subst hrec2
                 exact ⟨k2, Nat.lt_succ_self k2, x249, hm, ⟨rfl, rfl, rfl, rfl, rfl, rfl, rfl, trivial⟩, H⟩
                ·have hm := cond_f hb hm
                 refine W_exit ?_
                 refine W_region ?_
                 refine RL_pure (by exact wn0 rfl) (by rfl) (by rfl) (x_move (v := .int .i64 y21_1) (by rfl)) ?_
                 obtain ⟨x250, ex250, qx250, ux250, hm⟩ := ck_some hm
                 refine RL_pure (by exact wn0 rfl) (by rfl) (by rfl) (x_add (by rfl) (by rfl) ux250) ?_
                 refine RL_pure (by exact wn0 rfl) (by rfl) (by rfl) (x_assign (v := .int .i64 x250) (by rfl)) ?_
                 refine RL_nil ?_
                 subst hrec1
                 exact ⟨k1, Nat.lt_succ_self k1, x250, hm, ⟨rfl, rfl, rfl, rfl, rfl, rfl, trivial⟩, (H).pick [0, 1, 2, 3, 4, 5, 6, 7, 8, 9, 10]⟩
             ·have hm := cond_f hb hm
              refine W_exit ?_
              have H : Sep ok w w196 [.blk b21 25 [.int .i64 a0.W, .int .i64 a0.H, .slice A1 a0.Color.length cp2, .slice A5 a0.Depth.length cp6, .slice A9 a0.Item.length cp10, .slice A13 a0.Tri.length cp14], .blk b23 28 [.slice A17 a1.Levels.length cp18], .blk b25 32 [.int .i64 a2.Rect.X0, .int .i64 a2.Rect.Y0, .int .i64 a2.Rect.X1, .int .i64 a2.Rect.Y1, .int .i64 a2.D], .blk b57 25 [.int .i64 v37.W, .int .i64 v37.H, .slice A39 v37.Color.length cp40, .slice A42 v37.Depth.length cp43, .slice A45 v37.Item.length cp46, .slice A48 v37.Tri.length cp49], .blk b59 28 [.slice A54 v52.Levels.length cp55], .blk b143 28 [.slice A140 (v138.1.Levels.map fun x => units x.Low).length cp141], .blk b152 28 [.slice A149 v147.1.Levels.length cp150]] [RE.rd k_Ar4_Int A1 cp2 a0.Color, RE.rd kInt A5 cp6 a0.Depth, RE.rd kInt A9 cp10 a0.Item, RE.rd kInt A13 cp14 a0.Tri, RE.rd k_Level A17 cp18 a1.Levels, RE.rd k_Ar4_Int A39 cp40 v37.Color, RE.rd kInt A42 cp43 v37.Depth, RE.rd kInt A45 cp46 v37.Item, RE.rd kInt A48 cp49 v37.Tri, RE.rd k_Level A54 cp55 v52.Levels] := ((((((((((H.alsoLtRd (i := 0) (by rfl)).alsoLtRd (i := 1) (by rfl)).alsoLtRd (i := 2) (by rfl)).alsoLtRd (i := 3) (by rfl)).alsoLtRd (i := 4) (by rfl)).alsoLtRd (i := 5) (by rfl)).alsoLtRd (i := 6) (by rfl)).alsoLtRd (i := 7) (by rfl)).alsoLtRd (i := 8) (by rfl)).alsoLtRd (i := 9) (by rfl)).pick [11, 12, 13, 14, 15, 16, 17, 18, 19, 20]
              refine W_seq ?_
              refine W_region ?_
              refine RL_pure (by exact wn0 rfl) (by rfl) (by rfl) (x_loadA (j := 0) (vs := [.int .i64 v37.W, .int .i64 v37.H, .slice A39 v37.Color.length cp40, .slice A42 v37.Depth.length cp43, .slice A45 v37.Item.length cp46, .slice A48 v37.Tri.length cp49]) ag25 (by rfl) (H.cells (i := 3) (by rfl)) (by rfl) (by rfl)) ?_
              refine RL_pure (by exact wn0 rfl) (by rfl) (by rfl) (x_loadA (j := 0) (vs := [.int .i64 a0.W, .int .i64 a0.H, .slice A1 a0.Color.length cp2, .slice A5 a0.Depth.length cp6, .slice A9 a0.Item.length cp10, .slice A13 a0.Tri.length cp14]) ag25 (by rfl) (H.cells (i := 0) (by rfl)) (by rfl) (by rfl)) ?_
              obtain ⟨v252, hv251, hm⟩ := bind_some hm
              refine RL_cons (O_call (by exact wn0 rfl) (by rfl) (by rfl) (x_callL (by rfl) (args := [.agg #[.int .i64 v37.W, .int .i64 v37.H, .slice A39 v37.Color.length cp40, .slice A42 v37.Depth.length cp43, .slice A45 v37.Item.length cp46, .slice A48 v37.Tri.length cp49], .agg #[.int .i64 a0.W, .int .i64 a0.H, .slice A1 a0.Color.length cp2, .slice A5 a0.Depth.length cp6, .slice A9 a0.Item.length cp10, .slice A13 a0.Tri.length cp14]]) (by rfl) (cf24 _ _)) (c24 okT K w196 v37 A39 cp40 A42 cp43 A45 cp46 A48 cp49 a0 A1 cp2 A5 cp6 A9 cp10 A13 cp14 (H.rd (i := 5) (by rfl)).any (H.rd (i := 6) (by rfl)).any (H.rd (i := 7) (by rfl)).any (H.rd (i := 8) (by rfl)).any (H.rd (i := 0) (by rfl)).any (H.rd (i := 1) (by rfl)).any (H.rd (i := 2) (by rfl)).any (H.rd (i := 3) (by rfl)).any v252 hv251) ?_)
              rintro e w253 ⟨rfl, H2⟩
              have H : Sep ok w w253 [.blk b21 25 [.int .i64 a0.W, .int .i64 a0.H, .slice A1 a0.Color.length cp2, .slice A5 a0.Depth.length cp6, .slice A9 a0.Item.length cp10, .slice A13 a0.Tri.length cp14], .blk b23 28 [.slice A17 a1.Levels.length cp18], .blk b25 32 [.int .i64 a2.Rect.X0, .int .i64 a2.Rect.Y0, .int .i64 a2.Rect.X1, .int .i64 a2.Rect.Y1, .int .i64 a2.D], .blk b57 25 [.int .i64 v37.W, .int .i64 v37.H, .slice A39 v37.Color.length cp40, .slice A42 v37.Depth.length cp43, .slice A45 v37.Item.length cp46, .slice A48 v37.Tri.length cp49], .blk b59 28 [.slice A54 v52.Levels.length cp55], .blk b143 28 [.slice A140 (v138.1.Levels.map fun x => units x.Low).length cp141], .blk b152 28 [.slice A149 v147.1.Levels.length cp150]] [RE.rd k_Ar4_Int A1 cp2 a0.Color, RE.rd kInt A5 cp6 a0.Depth, RE.rd kInt A9 cp10 a0.Item, RE.rd kInt A13 cp14 a0.Tri, RE.rd k_Level A17 cp18 a1.Levels, RE.rd k_Ar4_Int A39 cp40 v37.Color, RE.rd kInt A42 cp43 v37.Depth, RE.rd kInt A45 cp46 v37.Item, RE.rd kInt A48 cp49 v37.Tri, RE.rd k_Level A54 cp55 v52.Levels] := H.below H2.base
              clear H2
              refine ⟨_, rfl, ?_⟩
              show RL _ _ _ _ _ _ _
              refine RL_pure (by exact wn0 rfl) (by rfl) (by rfl) (x_move (v := .bool v252) (by rfl)) ?_
              obtain ⟨b254, hmS, hm⟩ := bind_some hm
              refine RL_cut 4 (fun r' w' => Agr [(138, .bool b254)] r' ∧ Sep ok w w' [.blk b21 25 [.int .i64 a0.W, .int .i64 a0.H, .slice A1 a0.Color.length cp2, .slice A5 a0.Depth.length cp6, .slice A9 a0.Item.length cp10, .slice A13 a0.Tri.length cp14], .blk b23 28 [.slice A17 a1.Levels.length cp18], .blk b25 32 [.int .i64 a2.Rect.X0, .int .i64 a2.Rect.Y0, .int .i64 a2.Rect.X1, .int .i64 a2.Rect.Y1, .int .i64 a2.D], .blk b57 25 [.int .i64 v37.W, .int .i64 v37.H, .slice A39 v37.Color.length cp40, .slice A42 v37.Depth.length cp43, .slice A45 v37.Item.length cp46, .slice A48 v37.Tri.length cp49], .blk b59 28 [.slice A54 v52.Levels.length cp55], .blk b143 28 [.slice A140 (v138.1.Levels.map fun x => units x.Low).length cp141], .blk b152 28 [.slice A149 v147.1.Levels.length cp150]] [RE.rd k_Ar4_Int A1 cp2 a0.Color, RE.rd kInt A5 cp6 a0.Depth, RE.rd kInt A9 cp10 a0.Item, RE.rd kInt A13 cp14 a0.Tri, RE.rd k_Level A17 cp18 a1.Levels, RE.rd k_Ar4_Int A39 cp40 v37.Color, RE.rd kInt A42 cp43 v37.Depth, RE.rd kInt A45 cp46 v37.Item, RE.rd kInt A48 cp49 v37.Tri, RE.rd k_Level A54 cp55 v52.Levels]) ?_ ?_
              ·cases hbS : v252
               ·have hm := cond_f hbS hmS
                refine RL_cons (OpR_off (by exact wn2 rfl rfl rfl rfl) (by rfl) (by rfl) ?_)
                refine RL_cons (OpR_off (by exact wn2 rfl rfl rfl rfl) (by rfl) (by rfl) ?_)
                refine RL_cons (OpR_off (by exact wn2 rfl rfl rfl rfl) (by rfl) (by rfl) ?_)
                refine RL_pure (by exact wn0 rfl) (by rfl) (by rfl) (x_pick_f (v := .bool false) (by rfl) (by rfl)) ?_
                refine RL_nil ?_
                exact ⟨⟨congrArg Value.bool (Option.some.inj hm), trivial⟩, H⟩
               ·have hm := cond_t hbS hmS
                refine RL_pure (by exact wn1 rfl rfl rfl rfl) (by rfl) (by rfl) (x_loadA (j := 0) (vs := [.slice A54 v52.Levels.length cp55]) ag28 (by rfl) (H.cells (i := 4) (by rfl)) (by rfl) (by rfl)) ?_
                refine RL_pure (by exact wn1 rfl rfl rfl rfl) (by rfl) (by rfl) (x_loadA (j := 0) (vs := [.slice A17 a1.Levels.length cp18]) ag28 (by rfl) (H.cells (i := 1) (by rfl)) (by rfl) (by rfl)) ?_
                obtain ⟨v256, hv255, hm⟩ := bind_some hm
                refine RL_cons (O_call (by exact wn1 rfl rfl rfl rfl) (by rfl) (by rfl) (x_callL (by rfl) (args := [.agg #[.slice A54 v52.Levels.length cp55], .agg #[.slice A17 a1.Levels.length cp18]]) (by rfl) (cf21 _ _)) (c21 okT K w253 v52 A54 cp55 a1 A17 cp18 (H.rd (i := 9) (by rfl)).any (H.rd (i := 4) (by rfl)).any v256 hv255) ?_)
                rintro e w257 ⟨rfl, H2⟩
                have H : Sep ok w w257 [.blk b21 25 [.int .i64 a0.W, .int .i64 a0.H, .slice A1 a0.Color.length cp2, .slice A5 a0.Depth.length cp6, .slice A9 a0.Item.length cp10, .slice A13 a0.Tri.length cp14], .blk b23 28 [.slice A17 a1.Levels.length cp18], .blk b25 32 [.int .i64 a2.Rect.X0, .int .i64 a2.Rect.Y0, .int .i64 a2.Rect.X1, .int .i64 a2.Rect.Y1, .int .i64 a2.D], .blk b57 25 [.int .i64 v37.W, .int .i64 v37.H, .slice A39 v37.Color.length cp40, .slice A42 v37.Depth.length cp43, .slice A45 v37.Item.length cp46, .slice A48 v37.Tri.length cp49], .blk b59 28 [.slice A54 v52.Levels.length cp55], .blk b143 28 [.slice A140 (v138.1.Levels.map fun x => units x.Low).length cp141], .blk b152 28 [.slice A149 v147.1.Levels.length cp150]] [RE.rd k_Ar4_Int A1 cp2 a0.Color, RE.rd kInt A5 cp6 a0.Depth, RE.rd kInt A9 cp10 a0.Item, RE.rd kInt A13 cp14 a0.Tri, RE.rd k_Level A17 cp18 a1.Levels, RE.rd k_Ar4_Int A39 cp40 v37.Color, RE.rd kInt A42 cp43 v37.Depth, RE.rd kInt A45 cp46 v37.Item, RE.rd kInt A48 cp49 v37.Tri, RE.rd k_Level A54 cp55 v52.Levels] := H.below H2.base
                clear H2
                refine ⟨_, rfl, ?_⟩
                show RL _ _ _ _ _ _ _
                refine RL_pure (by exact wn0 rfl) (by rfl) (by rfl) (x_pick_t (v := .bool v256) (by rfl) (by rfl)) ?_
                refine RL_nil ?_
                exact ⟨⟨congrArg Value.bool (Option.some.inj hm), trivial⟩, H⟩
              ·rintro r' w' ⟨hA, H⟩
               obtain ⟨r258, rfl⟩ := regen _ hA; clear hA
               obtain ⟨w259, rfl⟩ : ∃ W : World, W = w' := ⟨_, rfl⟩
               show RL _ _ _ _ _ _ _
               refine RL_pure (by exact wn0 rfl) (by rfl) (by rfl) (x_assign (v := .bool b254) (by rfl)) ?_
               refine RL_nil ?_
               refine W_ret ?_
               obtain rfl := Option.some.inj hm
               exact ⟨[.bool b254], (.tmp (by rfl) rfl), rfl, H.none_⟩
end Go.Proofs.YtobkigllalbkiaaV.M

/- PyramidTells, in plain Lean: the program's answers are the document's; its model answers true. -/
set_option linter.unusedVariables false
set_option linter.unusedSimpArgs false
namespace Go.Proofs.YtobkigllalbkiaaV.M
theorem eq0 : ((0 : Nat) : Int) = 0 := rfl
theorem m110_eq (K : Nat) (d it tr : Int) : ∃ b, m110 K d it tr = some b ∧ (b = true ↔ some1 d it tr) := by
  have : m110 K d it tr = m75 K d it tr := by
    unfold m110 m75 m131 m70
    cases decide ((-1024 : Int) ≤ d) <;> rfl
  rw [this]; exact m75_eq K d it tr
theorem m60_loop {K : Nat} {f : S_Frame} {n : Nat} (hd : f.Depth.length = n) (hi : f.Item.length = n) (ht : f.Tri.length = n) (hn : n ≤ 100000) : ∀ (k i : Nat), i ≤ n → n < i + k →
    (∀ (j : Nat) (d it tr : Int), j < i → f.Depth[j]? = some d → f.Item[j]? = some it → f.Tri[j]? = some tr → pixOK d it tr) →
    ∃ e, m60_l1 K f (n : Int) k i = some e ∧ (e = true ↔ ∀ (j : Nat) (d it tr : Int), f.Depth[j]? = some d → f.Item[j]? = some it → f.Tri[j]? = some tr → pixOK d it tr) := by
  intro k
  induction k with
  | zero => intro i h1 h2; omega
  | succ k ih =>
    intro i h1 h2 hpre
    show ∃ e, m60_l1b K f (n : Int) (m60_l1 K f n k) i = some e ∧ _
    unfold m60_l1b
    by_cases hlt : i < n
    · have h3 : (i : Int) < (n : Int) := by omega
      have g1 : f.Depth[i]? = some (f.Depth[i]'(by omega)) := List.getElem?_eq_getElem (by omega)
      have g2 : f.Item[i]? = some (f.Item[i]'(by omega)) := List.getElem?_eq_getElem (by omega)
      have g3 : f.Tri[i]? = some (f.Tri[i]'(by omega)) := List.getElem?_eq_getElem (by omega)
      generalize f.Depth[i]'(by omega) = d at g1
      generalize f.Item[i]'(by omega) = it at g2
      generalize f.Tri[i]'(by omega) = tr at g3
      rw [decide_eq_true h3, cond_true]
      simp only [idx_nat g1, idx_nat g2, idx_nat g3]
      obtain ⟨b, eb, hb⟩ := m110_eq K d it tr
      simp only [eb, Option.bind_some]
      by_cases hp : pixOK d it tr
      · have key : ∀ (R : Bool → Option Bool), ((bif (d == (-2048)) then some (it == (-1)) else some false).bind fun b41 => ((bif b41 then some (tr == (-1)) else some false).bind fun b51 => ((bif (!b51) then some (!b) else some false).bind R))) = R false := by
          intro R
          rcases hp with ⟨rfl, rfl, rfl⟩ | hs
          · rfl
          · have hb1 : b = true := hb.2 hs
            subst hb1
            rw [show (d == (-2048)) = false by have := hs.1; simp; omega]; rfl
        rw [key, cond_false, cast_succ, ck_nat (by omega)]
        refine ih (i + 1) (by omega) (by omega) fun j d' it' tr' hj k1 k2 k3 => ?_
        by_cases hji : j = i
        · subst hji
          rw [g1] at k1; rw [g2] at k2; rw [g3] at k3
          cases k1; cases k2; cases k3; exact hp
        · exact hpre j d' it' tr' (by omega) k1 k2 k3
      · have hbf : b = false := by
          cases b with
          | false => rfl
          | true => exact absurd (.inr (hb.1 rfl)) hp
        subst hbf
        have key : ∀ (R : Bool → Option Bool), ((bif (d == (-2048)) then some (it == (-1)) else some false).bind fun b41 => ((bif b41 then some (tr == (-1)) else some false).bind fun b51 => ((bif (!b51) then some (!false) else some false).bind R))) = R true := by
          intro R
          unfold pixOK at hp
          by_cases q1 : d = -2048
          · by_cases q2 : it = -1
            · have q3 : ¬ tr = -1 := fun q3 => hp (.inl ⟨q1, q2, q3⟩)
              rw [show (d == (-2048)) = true by simp [q1], show (it == (-1)) = true by simp [q2], show (tr == (-1)) = false by simp [q3]]; rfl
            · rw [show (d == (-2048)) = true by simp [q1], show (it == (-1)) = false by simp [q2]]; rfl
          · rw [show (d == (-2048)) = false by simp [q1]]; rfl
        rw [key, cond_true]
        refine ⟨false, rfl, ?_⟩
        constructor
        · intro h; cases h
        · intro h; exact absurd (h i d it tr g1 g2 g3) hp
    · have h3 : ¬ (i : Int) < (n : Int) := by omega
      rw [decide_eq_false h3, cond_false]
      refine ⟨true, rfl, ?_⟩
      simp only [true_iff]
      intro j d it tr k1 k2 k3
      have := (List.getElem?_eq_some_iff.1 k1).1
      exact hpre j d it tr (by omega) k1 k2 k3
theorem m60_eq {K : Nat} (hK : 10000 ≤ K) (f : S_Frame) : ∃ b, m60 K f = some b ∧ (b = true ↔ ∃ w h, FOK f w h) := by
  have no : ¬ (∃ w h, FOK f w h) → ((false : Bool) = true ↔ ∃ w h, FOK f w h) := fun hn => ⟨fun h => (by cases h), fun h => absurd h hn⟩
  unfold m60
  by_cases c1 : f.W < 1
  · refine ⟨false, by rw [decide_eq_true c1]; rfl, no ?_⟩
    rintro ⟨w, h, q⟩
    have := q.W; have := q.w1; omega
  by_cases c2 : 64 < f.W
  · refine ⟨false, by rw [decide_eq_false c1, decide_eq_true c2]; rfl, no ?_⟩
    rintro ⟨w, h, q⟩
    have := q.W; have := q.w64; omega
  by_cases c3 : f.H < 1
  · refine ⟨false, by rw [decide_eq_false c1, decide_eq_false c2, decide_eq_true c3]; rfl, no ?_⟩
    rintro ⟨w, h, q⟩
    have := q.H; have := q.h1; omega
  by_cases c4 : 64 < f.H
  · refine ⟨false, by rw [decide_eq_false c1, decide_eq_false c2, decide_eq_false c3, decide_eq_true c4]; rfl, no ?_⟩
    rintro ⟨w, h, q⟩
    have := q.H; have := q.h64; omega
  obtain ⟨w, hw⟩ : ∃ w : Nat, f.W = (w : Int) := ⟨f.W.toNat, by omega⟩
  obtain ⟨h, hh⟩ : ∃ h : Nat, f.H = (h : Int) := ⟨f.H.toNat, by omega⟩
  have w64 : w ≤ 64 := by omega
  have h64 : h ≤ 64 := by omega
  have hp : w * h ≤ 4096 := Nat.mul_le_mul w64 h64
  have e1 : (w : Int) * (h : Int) = ((w * h : Nat) : Int) := by push_cast; rfl
  have uniq : ∀ {a b : Nat}, FOK f a b → a * b = w * h := fun {a b} q => by
    have q1 := q.W
    have q2 := q.H
    have e1 : a = w := by omega
    have e2 : b = h := by omega
    subst e1; subst e2; rfl
  rw [decide_eq_false c1, decide_eq_false c2, decide_eq_false c3, decide_eq_false c4]
  simp only [cond_false, Option.bind_some]
  rw [hw, hh, e1, ck_nat (by omega)]
  by_cases l1 : f.Color.length = w * h
  · by_cases l2 : f.Depth.length = w * h
    · by_cases l3 : f.Item.length = w * h
      · by_cases l4 : f.Tri.length = w * h
        · obtain ⟨e, k1, k3⟩ := m60_loop (K := K) (f := f) l2 l3 l4 (by omega) K 0 (by omega) (by omega) (fun j d it tr hj => absurd hj (Nat.not_lt_zero _))
          refine ⟨e, ?_, ?_⟩
          · rw [l1, l2, l3, l4]
            simp only [bne_self_eq_false, cond_false, Option.bind_some]
            exact k1
          · rw [k3]
            exact ⟨fun q => ⟨w, h, hw, hh, by omega, w64, by omega, h64, l1, l2, l3, l4, q⟩, fun ⟨_, _, q⟩ => q.pix⟩
        · refine ⟨false, ?_, no fun ⟨a, b, q⟩ => l4 (by rw [← uniq q]; exact q.t)⟩
          rw [l1, l2, l3, show ((f.Tri.length : Int) != ((w * h : Nat) : Int)) = true by simp; omega]
          simp
      · refine ⟨false, ?_, no fun ⟨a, b, q⟩ => l3 (by rw [← uniq q]; exact q.i)⟩
        rw [l1, l2, show ((f.Item.length : Int) != ((w * h : Nat) : Int)) = true by simp; omega]
        simp
    · refine ⟨false, ?_, no fun ⟨a, b, q⟩ => l2 (by rw [← uniq q]; exact q.d)⟩
      rw [l1, show ((f.Depth.length : Int) != ((w * h : Nat) : Int)) = true by simp; omega]
      simp
  · refine ⟨false, ?_, no fun ⟨a, b, q⟩ => l1 (by rw [← uniq q]; exact q.c)⟩
    rw [show ((f.Color.length : Int) != ((w * h : Nat) : Int)) = true by simp; omega]
    simp
theorem m16_eq {K : Nat} (hK : 10000 ≤ K) (f : S_Frame) : (∃ w h, FOK f w h ∧ m16 K f = some (⟨pyr w h (dv f w)⟩, 0)) ∨ ((¬ ∃ w h, FOK f w h) ∧ m16 K f = some (⟨[]⟩, 8)) := by
  obtain ⟨b, k1, k3⟩ := m60_eq hK f
  unfold m16
  rw [k1, Option.bind_some]
  cases b with
  | true =>
    obtain ⟨w, h, q⟩ := k3.1 rfl
    refine .inl ⟨w, h, q, ?_⟩
    have hp := q.prodle
    rw [Bool.not_true, cond_false, apds_in (by simp [q.d]; omega), List.nil_append, q.lvl, m61_eq (by omega) q.dom]; rfl
  | false => exact .inr ⟨fun q => absurd (k3.2 q) (by decide), rfl⟩
theorem m15_16 {K : Nat} (hK : 10000 ≤ K) (f : S_Frame) : ∃ p e, m15 K f = some (p, e) ∧ m16 K f = some (p, e) ∧ p.Levels.length ≤ 7 ∧ ∀ x ∈ p.Levels, x.Low.length ≤ 4096 := by
  rcases m15_eq hK f with ⟨w, h, q, e1⟩ | ⟨hn, e1⟩
  · rcases m16_eq hK f with ⟨w', h', q', e2⟩ | ⟨hn, _⟩
    · have : w = w' := by have := q.W; have := q'.W; omega
      subst this
      have : h = h' := by have := q.H; have := q'.H; omega
      subst this
      have hll := lvls_len 6 w h (dv f w)
      exact ⟨_, _, e1, e2, by show (pyr w h (dv f w)).length ≤ 7; rw [pyr_len]; omega, fun x hx => pyr_mem q.dom hx⟩
    · exact absurd ⟨w, h, q⟩ hn
  · rcases m16_eq hK f with ⟨w', h', q', _⟩ | ⟨_, e2⟩
    · exact absurd ⟨w', h', q'⟩ hn
    · exact ⟨_, _, e1, e2, by simp, fun x hx => by simp at hx⟩
/-! ### two pyramids held against each other -/
theorem m21_l2_eq {K : Nat} {y : Int} {rec1 : Int → Option Bool} {l m : S_Level} (hy : -1000000 ≤ y ∧ y ≤ 1000000) (hs : l.Low.length ≤ 1000000) (hl : l.Low.length = m.Low.length) : ∀ (k i : Nat), i ≤ l.Low.length → l.Low.length < i + k → (∀ j, j < i → l.Low[j]? = m.Low[j]?) →
    m21_l2 K y rec1 l m k i = if l.Low = m.Low then rec1 (y + 1) else some false := by
  intro k
  induction k with
  | zero => intro i h1 h2; omega
  | succ k ih =>
    intro i h1 h2 hpre
    show m21_l2b K y rec1 l m (m21_l2 K y rec1 l m k) i = _
    unfold m21_l2b
    by_cases hi : i < l.Low.length
    · have h3 : (i : Int) < (l.Low.length : Int) := by omega
      have ga : l.Low[i]? = some l.Low[i] := List.getElem?_eq_getElem hi
      have gb : m.Low[i]? = some (m.Low[i]'(by omega)) := List.getElem?_eq_getElem (by omega)
      rw [decide_eq_true h3, cond_true, idx_nat ga, idx_nat gb]
      by_cases he : l.Low[i] = m.Low[i]'(by omega)
      · rw [show (l.Low[i] != m.Low[i]'(by omega)) = false by simp [he], cond_false, cast_succ, ck_in (by omega) (by omega)]
        refine ih (i + 1) (by omega) (by omega) fun j hj => ?_
        by_cases hji : j = i
        · subst hji; rw [ga, gb, he]
        · exact hpre j (by omega)
      · rw [show (l.Low[i] != m.Low[i]'(by omega)) = true by simp [he], cond_true, if_neg]
        intro h
        have : l.Low[i]? = m.Low[i]? := by rw [h]
        rw [ga, gb] at this
        exact he (Option.some.inj this)
    · have h3 : ¬ (i : Int) < (l.Low.length : Int) := by omega
      rw [decide_eq_false h3, cond_false, ck_in (by omega) (by omega), if_pos]
      apply List.ext_getElem?
      intro j
      by_cases hj : j < i
      · exact hpre j hj
      · rw [List.getElem?_eq_none (by omega), List.getElem?_eq_none (by omega)]
theorem m21_eq {K : Nat} {p q : S_Pyramid} (hs : p.Levels.length ≤ 1000) (hK : 1000 < K) (hin : ∀ x ∈ p.Levels, x.Low.length ≤ 1000000 ∧ x.Low.length < K) : ∃ b, m21 K p q = some b ∧ (b = true ↔ p.Levels = q.Levels) := by
  unfold m21
  by_cases hlen : p.Levels.length = q.Levels.length
  · rw [show ((p.Levels.length : Int) != (q.Levels.length : Int)) = false by simp [hlen], cond_false]
    have key : ∀ (k i : Nat), i ≤ p.Levels.length → p.Levels.length < i + k → (∀ j, j < i → p.Levels[j]? = q.Levels[j]?) → ∃ b, m21_l1 K p q k i = some b ∧ (b = true ↔ p.Levels = q.Levels) := by
      intro k
      induction k with
      | zero => intro i h1 h2; omega
      | succ k ih =>
        intro i h1 h2 hpre
        show ∃ b, m21_l1b K p q (m21_l1 K p q k) i = some b ∧ _
        unfold m21_l1b
        by_cases hi : i < p.Levels.length
        · have h3 : (i : Int) < (p.Levels.length : Int) := by omega
          have ga : p.Levels[i]? = some p.Levels[i] := List.getElem?_eq_getElem hi
          have gb : q.Levels[i]? = some (q.Levels[i]'(by omega)) := List.getElem?_eq_getElem (by omega)
          obtain ⟨q1, q2⟩ := hin _ (List.getElem_mem hi)
          generalize hx : p.Levels[i] = x at ga q1 q2
          generalize hy : q.Levels[i]'(by omega) = y at gb
          rw [decide_eq_true h3, cond_true, idx_nat ga, idx_nat gb]
          have bad : x ≠ y → ((false : Bool) = true ↔ p.Levels = q.Levels) := fun hne => ⟨fun h => (by cases h), fun h => absurd (by rw [h, gb] at ga; exact (Option.some.inj ga).symm) hne⟩
          by_cases e1 : x.W = y.W
          · by_cases e2 : x.H = y.H
            · by_cases e3 : x.Low.length = y.Low.length
              · rw [show (x.W != y.W) = false by simp [e1], show (x.H != y.H) = false by simp [e2], show ((x.Low.length : Int) != (y.Low.length : Int)) = false by simp [e3]]
                simp only [cond_false, Option.bind_some]
                have e4 := m21_l2_eq (K := K) (y := (i : Int)) (rec1 := m21_l1 K p q k) (l := x) (m := y) (by omega) q1 e3 K 0 (Nat.zero_le _) (by omega) (fun j hj => absurd hj (Nat.not_lt_zero _))
                rw [eq0] at e4
                rw [e4]
                by_cases e5 : x.Low = y.Low
                · rw [if_pos e5, cast_succ]
                  refine ih (i + 1) (by omega) (by omega) fun j hj => ?_
                  by_cases hji : j = i
                  · subst hji; rw [ga, gb, level_ext e1 e2 e5]
                  · exact hpre j (by omega)
                · rw [if_neg e5]
                  exact ⟨false, rfl, bad fun h => e5 (by rw [h])⟩
              · rw [show (x.W != y.W) = false by simp [e1], show (x.H != y.H) = false by simp [e2], show ((x.Low.length : Int) != (y.Low.length : Int)) = true by simp; omega]
                exact ⟨false, rfl, bad fun h => e3 (by rw [h])⟩
            · rw [show (x.W != y.W) = false by simp [e1], show (x.H != y.H) = true by simp [e2]]
              exact ⟨false, rfl, bad fun h => e2 (by rw [h])⟩
          · rw [show (x.W != y.W) = true by simp [e1]]
            exact ⟨false, rfl, bad fun h => e1 (by rw [h])⟩
        · have h3 : ¬ (i : Int) < (p.Levels.length : Int) := by omega
          rw [decide_eq_false h3, cond_false]
          refine ⟨true, rfl, ?_⟩
          simp only [true_iff]
          apply List.ext_getElem?
          intro j
          by_cases hj : j < i
          · exact hpre j hj
          · rw [List.getElem?_eq_none (by omega), List.getElem?_eq_none (by omega)]
    exact key K 0 (Nat.zero_le _) (by omega) (fun j hj => absurd hj (Nat.not_lt_zero _))
  · rw [show ((p.Levels.length : Int) != (q.Levels.length : Int)) = true by simp; omega, cond_true]
    exact ⟨false, rfl, ⟨fun h => (by cases h), fun h => absurd (congrArg List.length h) hlen⟩⟩
/-! ### Check -/
/-- A level's numbers by place. -/
def lvAt (l : S_Level) (w : Nat) (x y : Nat) : Int := l.Low.getD (y * w + x) 0
theorem lvl_mk {l : S_Level} {w h : Nat} (hW : l.W = w) (hH : l.H = h) (hl : l.Low.length = w * h) : l = mkL w h (lvAt l w) := by
  refine level_ext hW hH ?_
  show l.Low = (List.range (w * h)).map fun i => l.Low.getD (i / w * w + i % w) 0
  apply List.ext_getElem?
  intro i
  by_cases hi : i < w * h
  · have e1 : i / w * w + i % w = i := by rw [Nat.mul_comm]; exact Nat.div_add_mod i w
    have e2 : i < l.Low.length := by omega
    simp [hi, e1, e2]
  · rw [List.getElem?_eq_none (by omega), List.getElem?_eq_none (by simp; omega)]
/-- Is a pyramid the one of its first level, and may that be? -/
def POK (p : S_Pyramid) (w h : Nat) (v : Nat → Nat → Int) : Prop := Dom w h v ∧ p.Levels = pyr w h v
theorem check_eq {K : Nat} (hK : 10000 ≤ K) (p : S_Pyramid) : ((∃ w h v, POK p w h v) ∧ m22 K p = some 0 ∧ m23 K p = some 0) ∨ (m22 K p = some 8 ∧ m23 K p = some 8) := by
  by_cases c0 : p.Levels = []
  · right
    unfold m22 m23
    rw [c0]
    exact ⟨rfl, rfl⟩
  have hlen : 0 < p.Levels.length := List.length_pos_iff.2 c0
  obtain ⟨l, gl⟩ : ∃ l, p.Levels[0]? = some l := ⟨_, List.getElem?_eq_getElem hlen⟩
  have n0 : ((p.Levels.length : Int) == 0) = false := by simp; exact c0
  have s22 : m22 K p = ((bif (decide ((mn l.W l.H) < 1)) then some true else some (decide (64 < (mx l.W l.H)))).bind fun b27 => ((bif b27 then some true else (ck (l.W * l.H) fun x31 => some ((l.Low.length : Int) != x31))).bind fun b30 => (bif b30 then some 8 else ((m63 K l.Low).bind fun v36 => ((bif (decide (v36 < (-2048))) then some true else ((m64 K l.Low).bind fun v40 => some (decide (66560 < v40)))).bind fun b38 => ((bif b38 then some true else ((m58 K l).bind fun v46 => ((m65 K v46.Levels p.Levels).bind fun v52 => some (!v52)))).bind fun b44 => (bif b44 then some 8 else some 0))))))) := by
    unfold m22
    rw [n0, cond_false, idx_in (i := 0) (by omega) gl]
  have s23 : m23 K p = ((bif (decide (l.W < 1)) then some true else some (decide (64 < l.W))).bind fun b27 => ((bif b27 then some true else some (decide (l.H < 1))).bind fun b30 => ((bif b30 then some true else some (decide (64 < l.H))).bind fun b33 => ((bif b33 then some true else (ck (l.W * l.H) fun x37 => some ((l.Low.length : Int) != x37))).bind fun b36 => (bif b36 then some 8 else m23_l1 K p l K 0))))) := by
    unfold m23
    rw [n0, cond_false, idx_in (i := 0) (by omega) gl]
  by_cases hb : 1 ≤ l.W ∧ l.W ≤ 64 ∧ 1 ≤ l.H ∧ l.H ≤ 64
  · obtain ⟨b1, b2, b3, b4⟩ := hb
    obtain ⟨w, hw⟩ : ∃ w : Nat, l.W = (w : Int) := ⟨l.W.toNat, by omega⟩
    obtain ⟨h, hh⟩ : ∃ h : Nat, l.H = (h : Int) := ⟨l.H.toNat, by omega⟩
    have w1 : 1 ≤ w := by omega
    have w64 : w ≤ 64 := by omega
    have h1 : 1 ≤ h := by omega
    have h64 : h ≤ 64 := by omega
    have hp : w * h ≤ 4096 := Nat.mul_le_mul w64 h64
    have hp1 : 1 ≤ w * h := Nat.mul_pos w1 h1
    have e1 : (w : Int) * (h : Int) = ((w * h : Nat) : Int) := by push_cast; rfl
    have d1 : decide (mn (w : Int) (h : Int) < 1) = false := decide_eq_false (by rw [mn_eq]; omega)
    have d2 : decide (64 < mx (w : Int) (h : Int)) = false := decide_eq_false (by rw [mx_eq]; omega)
    have t1 : decide ((w : Int) < 1) = false := decide_eq_false (by omega)
    have t2 : decide (64 < (w : Int)) = false := decide_eq_false (by omega)
    have t3 : decide ((h : Int) < 1) = false := decide_eq_false (by omega)
    have t4 : decide (64 < (h : Int)) = false := decide_eq_false (by omega)
    have cp : ∀ {α : Type} (k : Int → Option α), ck ((w * h : Nat) : Int) k = k ((w * h : Nat) : Int) := fun k => ck_nat (by omega)
    by_cases hll : l.Low.length = w * h
    · -- the numbers
      by_cases hr : ∀ a ∈ l.Low, -2048 ≤ a ∧ a ≤ 66560
      · have hmk := lvl_mk hw hh hll
        have d : Dom w h (lvAt l w) := by
          refine ⟨w1, w64, h1, h64, fun x y hx hy => ?_, fun x y hx hy => ?_⟩
          · exact (hr _ (by have := mkL_mem (w := w) (h := h) (v := lvAt l w) (a := lvAt l w x y); rw [← hmk] at this; exact this.2 ⟨x, y, hx, hy, rfl⟩)).1
          · exact (hr _ (by have := mkL_mem (w := w) (h := h) (v := lvAt l w) (a := lvAt l w x y); rw [← hmk] at this; exact this.2 ⟨x, y, hx, hy, rfl⟩)).2
        rw [hmk] at gl
        obtain ⟨b, hb1, hb2, hb3⟩ := m22_first hK d gl
        obtain ⟨b', hc1, hc2⟩ := m21_eq (K := K) (p := ⟨pyr w h (lvAt l w)⟩) (q := p) (by show (pyr w h (lvAt l w)).length ≤ 1000; rw [pyr_len]; have := lvls_len 6 w h (lvAt l w); omega) (by omega) (fun x hx => by have := pyr_mem d hx; omega)
        have hbb : b = b' := Bool.eq_iff_iff.2 (hb2.trans hc2.symm)
        subst hbb
        have hbuilt := m61_eq (K := K) (by omega) d
        have loop : ∀ (k i : Nat), i ≤ w * h → w * h < i + k → m23_l1 K p (mkL w h (lvAt l w)) k i = some (if b then 0 else 8) := by
          intro k
          induction k with
          | zero => intro i h1 h2; omega
          | succ k ih =>
            intro i h1 h2
            show m23_l1b K p (mkL w h (lvAt l w)) (m23_l1 K p (mkL w h (lvAt l w)) k) i = _
            unfold m23_l1b
            rw [mkL_len]
            by_cases hi : i < w * h
            · have h3 : (i : Int) < ((w * h : Nat) : Int) := by omega
              obtain ⟨s1, s2, s3⟩ := split_place (by omega) hi
              have g := mkL_get (v := lvAt l w) s1 s2
              rw [s3] at g
              have r1 : ¬ lvAt l w (i % w) (i / w) < -2048 := by have := d.lo _ _ s1 s2; omega
              have r2 : ¬ 66560 < lvAt l w (i % w) (i / w) := by have := d.hi _ _ s1 s2; omega
              rw [decide_eq_true h3, cond_true, idx_nat g, idx_nat g, decide_eq_false r1, cond_false, decide_eq_false r2, Option.bind_some, cond_false, cast_succ, ck_nat (by omega)]
              exact ih (i + 1) (by omega) (by omega)
            · have h3 : ¬ (i : Int) < ((w * h : Nat) : Int) := by omega
              rw [decide_eq_false h3, cond_false, hbuilt, Option.bind_some, hc1, Option.bind_some]
              cases b <;> rfl
        have h23 : m23 K p = some (if b then 0 else 8) := by
          rw [s23, hw, hh, t1, t2, t3, t4, e1]
          simp only [cond_false, Option.bind_some, cp]
          rw [hll, bne_self_eq_false]
          simp only [cond_false, Option.bind_some]
          have := loop K 0 (Nat.zero_le _) (by omega)
          rw [← hmk, eq0] at this
          exact this
        cases b with
        | true => exact .inl ⟨⟨w, h, lvAt l w, d, (hc2.1 rfl).symm⟩, hb3, h23⟩
        | false => exact .inr ⟨hb3, h23⟩
      · -- a number beyond
        right
        obtain ⟨a, ha, hbad⟩ : ∃ a, a ∈ l.Low ∧ ¬ (-2048 ≤ a ∧ a ≤ 66560) := by
          refine Classical.byContradiction fun hn => hr fun a ha => ?_
          exact Classical.byContradiction fun hb => hn ⟨a, ha, hb⟩
        constructor
        · rw [s22, hw, hh, d1, d2, e1]
          simp only [cond_false, Option.bind_some, cp]
          rw [hll, bne_self_eq_false]
          simp only [cond_false, Option.bind_some]
          obtain ⟨mi, k1, _, q1⟩ := m63_eq (K := K) (a := l.Low) (by omega) (by omega) (by omega)
          obtain ⟨ma, k2, _, q2⟩ := m64_eq (K := K) (a := l.Low) (by omega) (by omega) (by omega)
          have := q1 a ha
          have := q2 a ha
          rw [k1, Option.bind_some, k2, Option.bind_some]
          by_cases r1 : mi < -2048
          · rw [decide_eq_true r1]; rfl
          · have r2 : 66560 < ma := by
              have : ¬ (-2048 ≤ a ∧ a ≤ 66560) := hbad
              omega
            rw [decide_eq_false r1, decide_eq_true r2]; rfl
        · have loop : ∀ (k i : Nat), i ≤ w * h → w * h < i + k → (∀ (j : Nat) (z : Int), j < i → l.Low[j]? = some z → -2048 ≤ z ∧ z ≤ 66560) → m23_l1 K p l k i = some 8 := by
            intro k
            induction k with
            | zero => intro i h1 h2; omega
            | succ k ih =>
              intro i h1 h2 hpre
              show m23_l1b K p l (m23_l1 K p l k) i = _
              unfold m23_l1b
              rw [hll]
              by_cases hi : i < w * h
              · have h3 : (i : Int) < ((w * h : Nat) : Int) := by omega
                have g : l.Low[i]? = some (l.Low[i]'(by omega)) := List.getElem?_eq_getElem (by omega)
                generalize l.Low[i]'(by omega) = z at g
                rw [decide_eq_true h3, cond_true, idx_nat g, idx_nat g]
                by_cases r1 : z < -2048
                · rw [decide_eq_true r1]; rfl
                · by_cases r2 : 66560 < z
                  · rw [decide_eq_false r1, decide_eq_true r2]; rfl
                  · rw [decide_eq_false r1, cond_false, decide_eq_false r2, Option.bind_some, cond_false, cast_succ, ck_nat (by omega)]
                    refine ih (i + 1) (by omega) (by omega) fun j z' hj hz => ?_
                    by_cases hji : j = i
                    · subst hji; rw [g] at hz; cases hz; omega
                    · exact hpre j z' (by omega) hz
              · exfalso
                obtain ⟨j, hj, e⟩ := List.getElem_of_mem ha
                exact hbad (hpre j a (by omega) (by rw [List.getElem?_eq_getElem hj, e]))
          rw [s23, hw, hh, t1, t2, t3, t4, e1]
          simp only [cond_false, Option.bind_some, cp]
          rw [hll, bne_self_eq_false]
          simp only [cond_false, Option.bind_some]
          have := loop K 0 (Nat.zero_le _) (by omega) (fun j z hj => absurd hj (Nat.not_lt_zero _))
          rw [eq0] at this
          exact this
    · right
      have hne : ((l.Low.length : Int) != ((w * h : Nat) : Int)) = true := by simp; omega
      constructor
      · rw [s22, hw, hh, d1, d2, e1]
        simp only [cond_false, Option.bind_some, cp, hne]
        rfl
      · rw [s23, hw, hh, t1, t2, t3, t4, e1]
        simp only [cond_false, Option.bind_some, cp, hne]
        rfl
  · right
    constructor
    · rw [s22]
      have : (bif decide (mn l.W l.H < 1) then some true else some (decide (64 < mx l.W l.H))) = some true := by
        by_cases q1 : mn l.W l.H < 1
        · rw [decide_eq_true q1]; rfl
        · have q2 : 64 < mx l.W l.H := by rw [mn_eq] at q1; rw [mx_eq]; omega
          rw [decide_eq_false q1, decide_eq_true q2]; rfl
      rw [this]; rfl
    · rw [s23]
      by_cases q1 : l.W < 1
      · rw [decide_eq_true q1]; rfl
      by_cases q2 : 64 < l.W
      · rw [decide_eq_false q1, decide_eq_true q2]; rfl
      by_cases q3 : l.H < 1
      · rw [decide_eq_false q1, decide_eq_false q2, decide_eq_true q3]; rfl
      have q4 : 64 < l.H := by omega
      rw [decide_eq_false q1, decide_eq_false q2, decide_eq_false q3, decide_eq_true q4]; rfl
/-! ### Low, Hidden -/
theorem m18_row {K w h y : Nat} {v : Nat → Nat → Int} {r : S_Rect} {rec1 : Int → Int → Option (Int × Int)} (d : Dom w h v) (hy : y < h) (hx0 : 0 ≤ r.X0) (hx1 : r.X1 < w) {S : Nat → Nat → Prop} {b n0 : Int} (hS : ∀ px py, S px py ↔ inR r px py)
    (h0 : MinB w h v b n0 (fun px py => S px py ∧ (py : Int) < y)) {res : Option (Int × Int)}
    (hend : ∀ n, MinB w h v b n (fun px py => S px py ∧ (py : Int) < y + 1) → rec1 n (y + 1 : Nat) = res) (hyr : r.Y0 ≤ (y : Int) ∧ (y : Int) ≤ r.Y1) :
    ∀ (k : Nat) (x : Int) (n : Int), r.X0 ≤ x → x ≤ r.X1 + 1 → r.X1 + 1 < x + k → MinB w h v b n (fun px py => S px py ∧ ((py : Int) < y ∨ ((py : Int) = y ∧ (px : Int) < x))) → m18_l2 K r (mkL w h v) y rec1 k x n = res := by
  intro k
  induction k with
  | zero => intro x n h1 h2 h3; omega
  | succ k ih =>
    intro x n h1 h2 h3 hn
    show m18_l2b K r (mkL w h v) y rec1 (m18_l2 K r (mkL w h v) y rec1 k) x n = _
    unfold m18_l2b
    have w64 := d.w64
    have h64 := d.h64
    by_cases hx : x ≤ r.X1
    · obtain ⟨px, rfl⟩ : ∃ px : Nat, x = (px : Int) := ⟨x.toNat, by omega⟩
      have hpx : px < w := by omega
      have hyw : y * w ≤ 12800 := row_bound w64 (by omega)
      have e1 : (y : Int) * (mkL w h v).W = ((y * w : Nat) : Int) := by show (y : Int) * (w : Int) = _; push_cast; rfl
      have e2 : ((y * w : Nat) : Int) + (px : Int) = ((y * w + px : Nat) : Int) := by push_cast; rfl
      rw [decide_eq_true hx, cond_true, e1, ck_nat (by omega), e2, ck_nat (by omega), idx_nat (mkL_get hpx hy), ck_in (by omega) (by omega), mn_eq]
      refine ih _ _ (by omega) (by omega) (by omega) ?_
      refine ⟨by have := hn.le; omega, fun qx qy hqx hqy ⟨hs, hq⟩ => ?_, ?_⟩
      · by_cases hq2 : (qy : Int) < y ∨ ((qy : Int) = y ∧ (qx : Int) < px)
        · have := hn.all qx qy hqx hqy ⟨hs, hq2⟩; omega
        · have e3 : qy = y := by omega
          have e4 : qx = px := by omega
          subst e3; subst e4; omega
      · rcases (by omega : min n (v px y) = n ∨ min n (v px y) = v px y) with e | e
        · rcases hn.at_ with e3 | ⟨qx, qy, q1, q2, ⟨q3, q4⟩, e3⟩
          · exact .inl (e.trans e3)
          · exact .inr ⟨qx, qy, q1, q2, ⟨q3, by omega⟩, e.trans e3⟩
        · exact .inr ⟨px, y, hpx, hy, ⟨(hS px y).2 ⟨by omega, by omega, by omega, by omega⟩, by omega⟩, e⟩
    · rw [decide_eq_false hx, cond_false, cast_succ, ck_nat (by omega)]
      refine hend n (hn.iff' fun px py hpx hpy => ?_)
      constructor
      · rintro ⟨a, c⟩; exact ⟨a, by omega⟩
      · rintro ⟨a, c⟩
        refine ⟨a, ?_⟩
        have := (hS px py).1 a
        have := this.2.1
        omega
theorem m18_rows {K w h : Nat} {v : Nat → Nat → Int} {r : S_Rect} (hK : 10000 ≤ K) (d : Dom w h v) (hr : okR w h r) {m : Int} (hm : MinB w h v 66560 m (inR r)) :
    ∀ (k y : Nat) (n : Int), r.Y0 ≤ (y : Int) → (y : Int) ≤ r.Y1 + 1 → r.Y1 + 1 < (y : Int) + k → MinB w h v 66560 n (fun px py => inR r px py ∧ (py : Int) < y) → m18_l1 K r (mkL w h v) k n y = some (m, 0) := by
  obtain ⟨r1, r2, r3, r4, r5, r6⟩ := hr
  intro k
  induction k with
  | zero => intro y n h1 h2 h3; omega
  | succ k ih =>
    intro y n h1 h2 h3 hn
    show m18_l1b K r (mkL w h v) (m18_l1 K r (mkL w h v) k) n y = _
    unfold m18_l1b
    have w64 := d.w64
    by_cases hy : (y : Int) ≤ r.Y1
    · rw [decide_eq_true hy, cond_true]
      refine m18_row (S := inR r) d (by omega) r1 r4 (fun _ _ => Iff.rfl) hn (fun n' hn' => ih (y + 1) n' (by omega) (by omega) (by omega) (hn'.iff' fun px py _ _ => by push_cast; exact Iff.rfl)) ⟨h1, hy⟩ K r.X0 n (Int.le_refl _) (by omega) (by omega) (hn.iff' fun px py _ _ => ?_)
      constructor
      · rintro ⟨a, c⟩; exact ⟨a, .inl c⟩
      · rintro ⟨a, c⟩
        refine ⟨a, ?_⟩
        have := a.1
        omega
    · rw [decide_eq_false hy, cond_false]
      have : n = m := (hn.iff' fun px py _ _ => (⟨fun q => q.1, fun q => ⟨q, by have := q.2.2.2; omega⟩⟩ : _ ↔ inR r px py)).same hm
      rw [this]
theorem low_same {K : Nat} (hK : 10000 ≤ K) (p : S_Pyramid) (r : S_Rect) : ∃ q, m17 K p r = some q ∧ m18 K p r = some q := by
  rcases check_eq hK p with ⟨⟨w, h, v, d, hp⟩, e1, e2⟩ | ⟨e1, e2⟩
  · have hpp : p = ⟨pyr w h v⟩ := by cases p; simp only at hp; subst hp; rfl
    subst hpp
    have g0 : (pyr w h v)[0]? = some (mkL w h v) := rfl
    have hW : (mkL w h v).W = (w : Int) := rfl
    have hH : (mkL w h v).H = (h : Int) := rfl
    have s18 : m18 K ⟨pyr w h v⟩ r = ((bif (decide (r.X0 < 0)) then some true else some (decide (r.X1 < r.X0))).bind fun b32 => ((bif b32 then some true else some (decide ((w : Int) ≤ r.X1))).bind fun b35 => ((bif b35 then some true else some (decide (r.Y0 < 0))).bind fun b38 => ((bif b38 then some true else some (decide (r.Y1 < r.Y0))).bind fun b41 => ((bif b41 then some true else some (decide ((h : Int) ≤ r.Y1))).bind fun b44 => (bif b44 then some (0, 2) else m18_l1 K r (mkL w h v) K 66560 r.Y0)))))) := by
      unfold m18
      rw [e2, Option.bind_some, show ((0 : Int) != 0) = false from rfl, cond_false, idx_in (i := 0) (by omega) g0, hW, hH]
    rcases m17_pyr hK d r with ⟨hn, e⟩ | ⟨hr, m, e, hm⟩
    · refine ⟨_, e, ?_⟩
      rw [s18]
      by_cases q1 : r.X0 < 0
      · rw [decide_eq_true q1]; rfl
      by_cases q2 : r.X1 < r.X0
      · rw [decide_eq_false q1, decide_eq_true q2]; rfl
      by_cases q3 : (w : Int) ≤ r.X1
      · rw [decide_eq_false q1, decide_eq_false q2, decide_eq_true q3]; rfl
      by_cases q4 : r.Y0 < 0
      · rw [decide_eq_false q1, decide_eq_false q2, decide_eq_false q3, decide_eq_true q4]; rfl
      by_cases q5 : r.Y1 < r.Y0
      · rw [decide_eq_false q1, decide_eq_false q2, decide_eq_false q3, decide_eq_false q4, decide_eq_true q5]; rfl
      by_cases q6 : (h : Int) ≤ r.Y1
      · rw [decide_eq_false q1, decide_eq_false q2, decide_eq_false q3, decide_eq_false q4, decide_eq_false q5, decide_eq_true q6]; rfl
      exact absurd ⟨by omega, by omega, by omega, by omega, by omega, by omega⟩ hn
    · refine ⟨_, e, ?_⟩
      have hr' := hr
      obtain ⟨r1, r2, r3, r4, r5, r6⟩ := hr
      rw [s18, decide_eq_false (show ¬ r.X0 < 0 by omega), decide_eq_false (show ¬ r.X1 < r.X0 by omega), decide_eq_false (show ¬ (w : Int) ≤ r.X1 by omega), decide_eq_false (show ¬ r.Y0 < 0 by omega), decide_eq_false (show ¬ r.Y1 < r.Y0 by omega), decide_eq_false (show ¬ (h : Int) ≤ r.Y1 by omega)]
      simp only [cond_false, Option.bind_some]
      obtain ⟨y, hy⟩ : ∃ y : Nat, r.Y0 = (y : Int) := ⟨r.Y0.toNat, by omega⟩
      have h64 := d.h64
      rw [hy]
      exact m18_rows hK d hr' hm K y 66560 (by omega) (by omega) (by omega) ⟨Int.le_refl _, fun px py _ _ q => by have := q.1.2.2.1; have := q.2; omega, .inl rfl⟩
  · refine ⟨(0, 8), ?_, ?_⟩
    · unfold m17; rw [e1]; rfl
    · unfold m18; rw [e2]; rfl
theorem hidden_same {K : Nat} (hK : 10000 ≤ K) (p : S_Pyramid) (s : S_Shade) : ∃ q, m19 K p s = some q ∧ m20 K p s = some q := by
  obtain ⟨⟨n, e⟩, h1, h2⟩ := low_same hK p s.Rect
  unfold m19 m20 m20_j1
  rw [h1, h2, Option.bind_some, Option.bind_some]
  by_cases he : e = 0
  · subst he
    have c1 : ((((n, (0 : Int)) : Int × Int).2) != 0) = false := rfl
    have c2 : ((((n, (0 : Int)) : Int × Int).2) == 0) = true := rfl
    rw [c1, c2]
    simp only [cond_false, cond_true]
    by_cases q1 : s.D < -1024
    · rw [decide_eq_true q1]; exact ⟨_, rfl, rfl⟩
    by_cases q2 : 66560 < s.D
    · rw [decide_eq_false q1, decide_eq_true q2]; exact ⟨_, rfl, rfl⟩
    rw [decide_eq_false q1, decide_eq_false q2]; exact ⟨_, rfl, rfl⟩
  · have c1 : ((((n, e) : Int × Int).2) != 0) = true := by simp [he]
    have c2 : ((((n, e) : Int × Int).2) == 0) = false := by simp [he]
    rw [c1, c2]
    refine ⟨_, rfl, ?_⟩
    simp only [cond_false, Option.bind_some, c1]
    rfl
/-! ### what is not great; copies; the same -/
theorem m12_eq {K : Nat} (hK : 1000 ≤ K) (p : S_Pyramid) : ∃ b, m12 K p = some b ∧ (b = false → p.Levels.length ≤ 20 ∧ ∀ x ∈ p.Levels, x.Low.length ≤ 9000) := by
  have key : ∀ (k i : Nat) (n : Int), i ≤ p.Levels.length → i ≤ 100 → 100 < i + k → 0 ≤ n → n ≤ 100000 * i → (∀ (j : Nat) (x : S_Level), j < i → p.Levels[j]? = some x → (min x.Low.length 100000 : Nat) ≤ n) →
      ∃ b, m12_l1 K p k n i = some b ∧ (b = false → p.Levels.length ≤ 20 ∧ ∀ x ∈ p.Levels, x.Low.length ≤ 9000) := by
    intro k
    induction k with
    | zero => intro i n h1 h2 h3; omega
    | succ k ih =>
      intro i n h1 h2 h3 h4 h5 hpre
      show ∃ b, m12_l1b K p (m12_l1 K p k) n i = some b ∧ _
      unfold m12_l1b
      by_cases hi : i < p.Levels.length ∧ i < 100
      · have d1 : (i : Int) < (p.Levels.length : Int) := by omega
        have d2 : (i : Int) < 100 := by omega
        have ga : p.Levels[i]? = some p.Levels[i] := List.getElem?_eq_getElem hi.1
        generalize p.Levels[i] = x at ga
        have em : mn (x.Low.length : Int) 100000 = ((min x.Low.length 100000 : Nat) : Int) := by rw [mn_eq]; omega
        have : min x.Low.length 100000 ≤ 100000 := Nat.min_le_right _ _
        rw [decide_eq_true d1, decide_eq_true d2, cond_true, Option.bind_some, cond_true, idx_nat ga, em, ck_in (by omega) (by omega), cast_succ, ck_nat (by omega)]
        refine ih (i + 1) _ (by omega) (by omega) (by omega) (by omega) (by omega) fun j y hj hy => ?_
        by_cases hji : j = i
        · subst hji; rw [ga] at hy; cases hy; omega
        · have := hpre j y (by omega) hy; omega
      · have hb : (bif decide ((i : Int) < (p.Levels.length : Int)) then some (decide ((i : Int) < 100)) else some false) = some false := by
          by_cases d1 : (i : Int) < (p.Levels.length : Int)
          · rw [decide_eq_true d1, decide_eq_false (show ¬ (i : Int) < 100 by omega)]; rfl
          · rw [decide_eq_false d1]; rfl
        rw [hb, Option.bind_some, cond_false]
        by_cases c1 : 20 < (p.Levels.length : Int)
        · exact ⟨true, by rw [decide_eq_true c1]; rfl, fun h => by cases h⟩
        · by_cases c2 : 9000 < n
          · exact ⟨true, by rw [decide_eq_false c1, decide_eq_true c2]; rfl, fun h => by cases h⟩
          · refine ⟨false, by rw [decide_eq_false c1, decide_eq_false c2]; rfl, fun _ => ⟨by omega, fun x hx => ?_⟩⟩
            obtain ⟨j, hj, e⟩ := List.getElem_of_mem hx
            have := hpre j x (by omega) (by rw [List.getElem?_eq_getElem hj, e])
            omega
  exact key K 0 0 (Nat.zero_le _) (Nat.zero_le _) (by omega) (Int.le_refl _) (by omega) (fun j x hj => absurd hj (Nat.not_lt_zero _))
theorem m13_eq {K : Nat} {f : S_Frame} (h1 : f.Color.length ≤ 9000) (h2 : f.Depth.length ≤ 9000) (h3 : f.Item.length ≤ 9000) (h4 : f.Tri.length ≤ 9000) : m13 K f = some f := by
  unfold m13
  rw [apds_in (by simp; omega), apds_in (by simp; omega), apds_in (by simp; omega), apds_in (by simp; omega)]
  rfl
theorem m14_eq {K : Nat} (hK : 1000 ≤ K) {p : S_Pyramid} (h1 : p.Levels.length ≤ 20) (h2 : ∀ x ∈ p.Levels, x.Low.length ≤ 9000) : m14 K p = some p := by
  have key : ∀ (k i : Nat), i ≤ p.Levels.length → p.Levels.length < i + k → m14_l1 K p k (p.Levels.take i) i = some p := by
    intro k
    induction k with
    | zero => intro i h1 h2; omega
    | succ k ih =>
      intro i q1 q2
      show m14_l1b K p (m14_l1 K p k) _ i = _
      unfold m14_l1b
      by_cases hi : i < p.Levels.length
      · have d1 : (i : Int) < (p.Levels.length : Int) := by omega
        have ga : p.Levels[i]? = some p.Levels[i] := List.getElem?_eq_getElem hi
        have hl := h2 _ (List.getElem_mem hi)
        rw [decide_eq_true d1, cond_true, idx_nat ga, apds_in (by simp; omega), apd_in (by simp; omega), cast_succ, ck_nat (by omega)]
        have := ih (i + 1) (by omega) (by omega)
        rw [List.take_add_one, ga] at this
        exact this
      · have d1 : ¬ (i : Int) < (p.Levels.length : Int) := by omega
        rw [decide_eq_false d1, cond_false, List.take_of_length_le (by omega)]
  have := key K 0 (Nat.zero_le _) (by omega)
  rw [List.take_zero] at this
  exact this
theorem m112_refl {K : Nat} {a : List Int} (hs : a.length ≤ 1000000) (hK : a.length < K) : m112 K a a = some true := by
  unfold m112
  rw [bne_self_eq_false, cond_false]
  have key : ∀ (k i : Nat), i ≤ a.length → a.length < i + k → m112_l1 K a a k i = some true := by
    intro k
    induction k with
    | zero => intro i h1 h2; omega
    | succ k ih =>
      intro i h1 h2
      show m112_l1b K a a (m112_l1 K a a k) i = _
      unfold m112_l1b
      by_cases hi : i < a.length
      · have h3 : (i : Int) < (a.length : Int) := by omega
        have ga : a[i]? = some a[i] := List.getElem?_eq_getElem hi
        rw [decide_eq_true h3, cond_true, idx_nat ga, idx_nat ga, bne_self_eq_false, cond_false, cast_succ, ck_in (by omega) (by omega)]
        exact ih (i + 1) (by omega) (by omega)
      · have h3 : ¬ (i : Int) < (a.length : Int) := by omega
        rw [decide_eq_false h3, cond_false]
  exact key K 0 (by omega) (by omega)
theorem m24_refl {K : Nat} {f : S_Frame} (hK : 10000 ≤ K) (h1 : f.Color.length ≤ 9000) (h2 : f.Depth.length ≤ 9000) (h3 : f.Item.length ≤ 9000) (h4 : f.Tri.length ≤ 9000) : m24 K f f = some true := by
  unfold m24 m67
  simp only [bne_self_eq_false, cond_false, Option.bind_some]
  have key : ∀ (k i : Nat), i ≤ f.Color.length → f.Color.length < i + k → m67_l1 K f f k i = some true := by
    intro k
    induction k with
    | zero => intro i h1 h2; omega
    | succ k ih =>
      intro i q1 q2
      show m67_l1b K f f (m67_l1 K f f k) i = _
      unfold m67_l1b
      by_cases hi : i < f.Color.length
      · have h3 : (i : Int) < (f.Color.length : Int) := by omega
        have ga : f.Color[i]? = some f.Color[i] := List.getElem?_eq_getElem hi
        have hb : (!((f.Color[i].a0 == f.Color[i].a0) && ((f.Color[i].a1 == f.Color[i].a1) && ((f.Color[i].a2 == f.Color[i].a2) && (f.Color[i].a3 == f.Color[i].a3))))) = false := by simp
        rw [decide_eq_true h3, cond_true, idx_nat ga, idx_nat ga, hb, cond_false, cast_succ, ck_in (by omega) (by omega)]
        exact ih (i + 1) (by omega) (by omega)
      · have h3' : ¬ (i : Int) < (f.Color.length : Int) := by omega
        rw [decide_eq_false h3', cond_false, m112_refl (by omega) (by omega), m112_refl (by omega) (by omega), m112_refl (by omega) (by omega)]
        rfl
  rw [show m67_l1 K f f K 0 = some true from key K 0 (by omega) (by omega)]
  rfl
/-- The numbers written over: the loops end. -/
theorem m3_loops {K : Nat} (hK : 10000 ≤ K) {f a0 : S_Frame} {p a1 : S_Pyramid} {q : S_Pyramid × Int} (h1 : q.1.Levels.length ≤ 7) (h2 : ∀ x ∈ q.1.Levels, x.Low.length ≤ 4096) {res : Option Bool}
    (hend : ((m24 K f a0).bind fun v252 => ((bif v252 then ((m21 K p a1).bind fun v256 => some v256) else some false).bind fun b254 => some b254)) = res) : m3_l1 K a0 a1 f p q K 0 = res := by
  have inner : ∀ (i : Nat) (us : List Unit) (rec1 : Int → Option Bool), (q.1.Levels.map fun x => units x.Low)[i]? = some us → us.length ≤ 4096 → i ≤ 7 → ∀ (k j : Nat), j ≤ us.length → us.length < j + k → m3_l2 K q i rec1 k j = rec1 (i + 1 : Nat) := by
    intro i us rec1 gu hu hi7 k
    induction k with
    | zero => intro j h1 h2; omega
    | succ k ih =>
      intro j q1 q2
      show m3_l2b K q i rec1 (m3_l2 K q i rec1 k) j = _
      unfold m3_l2b
      rw [idx_nat gu]
      by_cases hj : j < us.length
      · have h3 : (j : Int) < (us.length : Int) := by omega
        rw [decide_eq_true h3, cond_true, idx_nat gu, idx_nat (List.getElem?_eq_getElem hj), cast_succ, ck_nat (by omega)]
        exact ih (j + 1) (by omega) (by omega)
      · have h3 : ¬ (j : Int) < (us.length : Int) := by omega
        rw [decide_eq_false h3, cond_false, cast_succ, ck_nat (by omega)]
  have outer : ∀ (k i : Nat), i ≤ q.1.Levels.length → q.1.Levels.length < i + k → m3_l1 K a0 a1 f p q k i = res := by
    intro k
    induction k with
    | zero => intro i h1 h2; omega
    | succ k ih =>
      intro i q1 q2
      show m3_l1b K a0 a1 f p q (m3_l1 K a0 a1 f p q k) i = _
      unfold m3_l1b
      rw [List.length_map]
      by_cases hi : i < q.1.Levels.length
      · have h3 : (i : Int) < (q.1.Levels.length : Int) := by omega
        have ga : q.1.Levels[i]? = some q.1.Levels[i] := List.getElem?_eq_getElem hi
        have hl := h2 _ (List.getElem_mem hi)
        have gu : (q.1.Levels.map fun x => units x.Low)[i]? = some (units q.1.Levels[i].Low) := by rw [List.getElem?_map, ga]; rfl
        have := inner i _ (m3_l1 K a0 a1 f p q k) gu (by rw [units_length]; exact hl) (by omega) K 0 (Nat.zero_le _) (by rw [units_length]; omega)
        rw [eq0] at this
        rw [decide_eq_true h3, cond_true, this]
        exact ih (i + 1) (by omega) (by omega)
      · have h3 : ¬ (i : Int) < (q.1.Levels.length : Int) := by omega
        rw [decide_eq_false h3, cond_false]
        exact hend
  exact outer K 0 (Nat.zero_le _) (by omega)
/-- PyramidTells' model says true. -/
theorem m3_true {K : Nat} (hK : 10000 ≤ K) (f : S_Frame) (p : S_Pyramid) (s : S_Shade) : m3 K f p s = some true := by
  unfold m3
  have h11 : ∃ b, m11 K f = some b ∧ (b = false → f.Color.length ≤ 5000 ∧ f.Depth.length ≤ 5000 ∧ f.Item.length ≤ 5000 ∧ f.Tri.length ≤ 5000) := by
    unfold m11
    by_cases c1 : 5000 < (f.Color.length : Int)
    · exact ⟨true, by rw [decide_eq_true c1]; rfl, fun h => by cases h⟩
    by_cases c2 : 5000 < (f.Depth.length : Int)
    · exact ⟨true, by rw [decide_eq_false c1, decide_eq_true c2]; rfl, fun h => by cases h⟩
    by_cases c3 : 5000 < (f.Item.length : Int)
    · exact ⟨true, by rw [decide_eq_false c1, decide_eq_false c2, decide_eq_true c3]; rfl, fun h => by cases h⟩
    by_cases c4 : 5000 < (f.Tri.length : Int)
    · exact ⟨true, by rw [decide_eq_false c1, decide_eq_false c2, decide_eq_false c3, decide_eq_true c4]; rfl, fun h => by cases h⟩
    exact ⟨false, by rw [decide_eq_false c1, decide_eq_false c2, decide_eq_false c3, decide_eq_false c4]; rfl, fun _ => ⟨by omega, by omega, by omega, by omega⟩⟩
  obtain ⟨b1, e11, hb1⟩ := h11
  rw [e11, Option.bind_some]
  cases b1 with
  | true => rfl
  | false =>
    obtain ⟨f1, f2, f3, f4⟩ := hb1 rfl
    obtain ⟨b2, e12, hb2⟩ := m12_eq (K := K) (by omega) p
    rw [cond_false, e12, Option.bind_some, Option.bind_some]
    cases b2 with
    | true => rfl
    | false =>
      obtain ⟨p1, p2⟩ := hb2 rfl
      rw [cond_false, m13_eq (by omega) (by omega) (by omega) (by omega), Option.bind_some, m14_eq (by omega) p1 p2, Option.bind_some]
      obtain ⟨py, pe, e15, e16, pl1, pl2⟩ := m15_16 hK f
      obtain ⟨q1, e17, e18⟩ := low_same hK p s.Rect
      obtain ⟨q2, e19, e20⟩ := hidden_same hK p s
      have e21 : m21 K py py = some true := m21_refl (by omega) (by omega) fun x hx => by have := pl2 x hx; omega
      have e22 : ∃ c, m22 K p = some c ∧ m23 K p = some c := by
        rcases check_eq hK p with ⟨_, a, b⟩ | ⟨a, b⟩
        · exact ⟨_, a, b⟩
        · exact ⟨_, a, b⟩
      obtain ⟨c, e22, e23⟩ := e22
      have e24 : m24 K f f = some true := m24_refl hK (by omega) (by omega) (by omega) (by omega)
      have e25 : m21 K p p = some true := m21_refl (by omega) (by omega) fun x hx => by have := p2 x hx; omega
      rw [e15, Option.bind_some, e16, Option.bind_some, e17, Option.bind_some, e18, Option.bind_some, e19, Option.bind_some, e20, Option.bind_some]
      show ((m21 K py py).bind _) = _
      rw [e21, Option.bind_some]
      simp only [Bool.not_true, cond_false, Option.bind_some, bne_self_eq_false, beq_self_eq_true, e22, e23]
      exact m3_loops hK pl1 pl2 (by rw [e24, Option.bind_some, cond_true, e25]; rfl)
end Go.Proofs.YtobkigllalbkiaaV.M
