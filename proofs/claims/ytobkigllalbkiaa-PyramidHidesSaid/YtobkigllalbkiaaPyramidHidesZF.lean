/- Part 6 of the texts that the proof of PyramidHides stands on. -/
import Derived.Test.YtobkigllalbkiaaPyramidHidesZE
/- A plain Lean function that answers as the Go function does (none: not told), and the proof that a call answers so. Written by program. -/
set_option linter.unusedVariables false
namespace Go.Proofs.YtobkigllalbkiaaV.M
open Go.RowKit Go.Proofs.YtobkigllalbkiaaV
def m5_l3b (K : Nat) (y8_1 : Int) (y9_1 : Int) (rec1 : Int → Int → Option (Bool)) (el41 : S_Level) (l_row82_2 : (List Int)) (rec3 : Int → Option (Bool)) (y14_3 : Int) : Option (Bool) :=
 (bif (decide (y14_3 < (l_row82_2.length : Int))) then (idx l_row82_2 y14_3 fun el126 => (ck (el126 + 70000) fun x133 => (idx el41.Low y14_3 fun el134 => (bif (x133 != el134) then some false else (ck (y14_3 + 1) fun x141 => (rec3 x141)))))) else (ck (2 * y8_1) fun x142 => (ck (y9_1 + 1) fun x143 => (rec1 x142 x143))))
def m5_l3 (K : Nat) (y8_1 : Int) (y9_1 : Int) (rec1 : Int → Int → Option (Bool)) (el41 : S_Level) (l_row82_2 : (List Int)) : Nat → Int → Option (Bool)
 | 0 => fun _ => none
 | k + 1 => m5_l3b K y8_1 y9_1 rec1 el41 l_row82_2 (m5_l3 K y8_1 y9_1 rec1 el41 l_row82_2 k)
def m5_l2b (K : Nat) (a0 : S_Frame) (y8_1 : Int) (y9_1 : Int) (rec1 : Int → Int → Option (Bool)) (el41 : S_Level) (rec2 : (List Int) → Int → Option (Bool)) (l_row82_2 : (List Int)) (y12_2 : Int) : Option (Bool) :=
 (bif (decide (y12_2 < (a0.Depth.length : Int))) then (nz a0.W (ck (Int.tdiv y12_2 a0.W) fun x87 => (nz y8_1 (ck (Int.tdiv x87 y8_1) fun x88 => (ck (x88 * el41.W) fun x89 => (nz a0.W (nz y8_1 (ck (Int.tdiv (Int.tmod y12_2 a0.W) y8_1) fun x91 => (ck (x89 + x91) fun x92 => (bif (decide ((l_row82_2.length : Int) ≤ x92)) then some false else (idx l_row82_2 x92 fun el94 => (idx a0.Depth y12_2 fun el101 => (ck (el101 - 70000) fun x108 => (idx l_row82_2 x92 fun el109 => (lete (l_row82_2.set ((x92).toNat) (mn el94 x108)) fun l118 => (ck (y12_2 + 1) fun x122 => (rec2 l118 x122))))))))))))))))) else m5_l3 K y8_1 y9_1 rec1 el41 l_row82_2 K 0)
def m5_l2 (K : Nat) (a0 : S_Frame) (y8_1 : Int) (y9_1 : Int) (rec1 : Int → Int → Option (Bool)) (el41 : S_Level) : Nat → (List Int) → Int → Option (Bool)
 | 0 => fun _ _ => none
 | k + 1 => m5_l2b K a0 y8_1 y9_1 rec1 el41 (m5_l2 K a0 y8_1 y9_1 rec1 el41 k)
def m5_l4b (K : Nat) (a0 : S_Frame) (a1 : S_Rect) (v22 : Bool) (v145 : Int × Int) (rec4 : Int → Int → Option (Bool)) (y17_4 : Int) (y18_4 : Int) : Option (Bool) :=
 (bif (decide (y18_4 < (a0.Depth.length : Int))) then (nz a0.W ((bif (decide (a1.X0 ≤ (Int.tmod y18_4 a0.W))) then (nz a0.W (some (decide ((Int.tmod y18_4 a0.W) ≤ a1.X1)))) else some false).bind fun b154 => ((bif b154 then (nz a0.W (ck (Int.tdiv y18_4 a0.W) fun x159 => some (decide (a1.Y0 ≤ x159)))) else some false).bind fun b158 => ((bif b158 then (nz a0.W (ck (Int.tdiv y18_4 a0.W) fun x163 => some (decide (x163 ≤ a1.Y1)))) else some false).bind fun b162 => (bif b162 then (idx a0.Depth y18_4 fun el166 => (ck (y18_4 + 1) fun x173 => (rec4 (mn y17_4 el166) x173))) else (ck (y18_4 + 1) fun x174 => (rec4 y17_4 x174))))))) else ((bif v22 then some (v145.1 == y17_4) else some false).bind fun b175 => some b175))
def m5_l4 (K : Nat) (a0 : S_Frame) (a1 : S_Rect) (v22 : Bool) (v145 : Int × Int) : Nat → Int → Int → Option (Bool)
 | 0 => fun _ _ => none
 | k + 1 => m5_l4b K a0 a1 v22 v145 (m5_l4 K a0 a1 v22 v145 k)
def m5_l1b (K : Nat) (a0 : S_Frame) (a1 : S_Rect) (v22 : Bool) (v28 : S_Pyramid × Int) (rec1 : Int → Int → Option (Bool)) (y8_1 : Int) (y9_1 : Int) : Option (Bool) :=
 (bif (decide (y9_1 < (v28.1.Levels.length : Int))) then (idx v28.1.Levels y9_1 fun el41 => ((bif (decide (el41.W < 1)) then some true else some (decide (el41.H < 1))).bind fun b61 => ((bif b61 then some true else (ck (el41.W * el41.H) fun x65 => some ((el41.Low.length : Int) != x65))).bind fun b64 => ((bif b64 then some true else ((bif (el41.W == 1) then some (el41.H == 1) else some false).bind fun b69 => (ck ((v28.1.Levels.length : Int) - 1) fun x72 => some (!(b69 == (y9_1 == x72)))))).bind fun b68 => (bif b68 then some false else (mks 8 (el41.Low.length : Int) 0 fun l78 => m5_l2 K a0 y8_1 y9_1 rec1 el41 K l78 0)))))) else ((m17 K v28.1 a1).bind fun v145 => (bif (v145.2 != 0) then ((bif v22 then some (v145.1 == 0) else some false).bind fun b147 => some b147) else m5_l4 K a0 a1 v22 v145 K 1048576 0)))
def m5_l1 (K : Nat) (a0 : S_Frame) (a1 : S_Rect) (v22 : Bool) (v28 : S_Pyramid × Int) : Nat → Int → Int → Option (Bool)
 | 0 => fun _ _ => none
 | k + 1 => m5_l1b K a0 a1 v22 v28 (m5_l1 K a0 a1 v22 v28 k)
/-- diorama/dioramalaw27.PyramidLeast -/
def m5 (K : Nat) (a0 : S_Frame) (a1 : S_Rect) : Option (Bool) :=
 ((m34 K ).bind fun v22 => (bif (!v22) then some false else ((m11 K a0).bind fun v25 => (bif v25 then some v22 else ((m15 K a0).bind fun v28 => (bif (v28.2 != 0) then ((bif v22 then some ((v28.1.Levels.length : Int) == 0) else some false).bind fun b36 => some b36) else m5_l1 K a0 a1 v22 v28 K 1 0))))))
set_option maxRecDepth 100000 in
set_option maxHeartbeats 4000000 in
theorem c5 (ok : Nat → Prop) (K : Nat) (w : World) (a0 : S_Frame) (A1 : Option Addr) (cp2 : Nat) (A5 : Option Addr) (cp6 : Nat) (A9 : Option Addr) (cp10 : Nat) (A13 : Option Addr) (cp14 : Nat) (a1 : S_Rect) (hR3 : Rd k_Ar4_Int w ok A1 cp2 a0.Color) (hR7 : Rd kInt w ok A5 cp6 a0.Depth) (hR11 : Rd kInt w ok A9 cp10 a0.Item) (hR15 : Rd kInt w ok A13 cp14 a0.Tri) (res : Bool) (hm : m5 K a0 a1 = some res) :
  Calls Try.prog 5 #[.agg #[.int .i64 a0.W, .int .i64 a0.H, .slice A1 a0.Color.length cp2, .slice A5 a0.Depth.length cp6, .slice A9 a0.Item.length cp10, .slice A13 a0.Tri.length cp14], .agg #[.int .i64 a1.X0, .int .i64 a1.Y0, .int .i64 a1.X1, .int .i64 a1.Y1]] w (fun e w' => e = .returned (tup [.bool res]) ∧ Sep ok w w' [] []) := by
 refine calls_W (args := [.agg #[.int .i64 a0.W, .int .i64 a0.H, .slice A1 a0.Color.length cp2, .slice A5 a0.Depth.length cp6, .slice A9 a0.Item.length cp10, .slice A13 a0.Tri.length cp14], .agg #[.int .i64 a1.X0, .int .i64 a1.Y0, .int .i64 a1.X1, .int .i64 a1.Y1]]) Try.func5 rfl Try.ntmps5 Try.results5 rfl fun r hr => ?_
 obtain ⟨r1, rfl⟩ := regen (r := r) [(0, .agg #[.int .i64 a0.W, .int .i64 a0.H, .slice A1 a0.Color.length cp2, .slice A5 a0.Depth.length cp6, .slice A9 a0.Item.length cp10, .slice A13 a0.Tri.length cp14]), (1, .agg #[.int .i64 a1.X0, .int .i64 a1.Y0, .int .i64 a1.X1, .int .i64 a1.Y1])] ⟨hr 0 _ rfl, hr 1 _ rfl, trivial⟩
 have H : Sep ok w w [] [RE.rd k_Ar4_Int A1 cp2 a0.Color, RE.rd kInt A5 cp6 a0.Depth, RE.rd kInt A9 cp10 a0.Item, RE.rd kInt A13 cp14 a0.Tri] := Sep.arg (Sep.arg (Sep.arg (Sep.arg (Sep.start ok w) (re := RE.rd k_Ar4_Int A1 cp2 a0.Color) rfl rfl hR3) (re := RE.rd kInt A5 cp6 a0.Depth) rfl rfl hR7) (re := RE.rd kInt A9 cp10 a0.Item) rfl rfl hR11) (re := RE.rd kInt A13 cp14 a0.Tri) rfl rfl hR15
 unfold m5 at hm
 refine W_seq ?_
 refine W_region ?_
 refine RL_cons (O_box (by exact wn0 rfl) (by rfl) (by rfl) (by rfl) H (fun w18 b17 (H : Sep ok w w18 [.blk b17 25 [.int .i64 a0.W, .int .i64 a0.H, .slice A1 a0.Color.length cp2, .slice A5 a0.Depth.length cp6, .slice A9 a0.Item.length cp10, .slice A13 a0.Tri.length cp14]] [RE.rd k_Ar4_Int A1 cp2 a0.Color, RE.rd kInt A5 cp6 a0.Depth, RE.rd kInt A9 cp10 a0.Item, RE.rd kInt A13 cp14 a0.Tri]) => ?_))
 refine RL_cons (O_box (by exact wn0 rfl) (by rfl) (by rfl) (by rfl) H (fun w20 b19 (H : Sep ok w w20 [.blk b17 25 [.int .i64 a0.W, .int .i64 a0.H, .slice A1 a0.Color.length cp2, .slice A5 a0.Depth.length cp6, .slice A9 a0.Item.length cp10, .slice A13 a0.Tri.length cp14], .blk b19 30 [.int .i64 a1.X0, .int .i64 a1.Y0, .int .i64 a1.X1, .int .i64 a1.Y1]] [RE.rd k_Ar4_Int A1 cp2 a0.Color, RE.rd kInt A5 cp6 a0.Depth, RE.rd kInt A9 cp10 a0.Item, RE.rd kInt A13 cp14 a0.Tri]) => ?_))
 refine RL_pure (by exact wn0 rfl) (by rfl) (by rfl) (x_assign (v := .bool false) (by rfl)) ?_
 refine RL_nil ?_
 refine W_seq ?_
 refine W_region ?_
 obtain ⟨v22, hv21, hm⟩ := bind_some hm
 refine RL_cons (O_call (by exact wn0 rfl) (by rfl) (by rfl) (x_callL (by rfl) (args := []) (by rfl) (cf34 _ _)) (c34 (fun _ => True) K w20   v22 hv21) ?_)
 rintro e w23 ⟨rfl, H2⟩
 have H : Sep ok w w23 [.blk b17 25 [.int .i64 a0.W, .int .i64 a0.H, .slice A1 a0.Color.length cp2, .slice A5 a0.Depth.length cp6, .slice A9 a0.Item.length cp10, .slice A13 a0.Tri.length cp14], .blk b19 30 [.int .i64 a1.X0, .int .i64 a1.Y0, .int .i64 a1.X1, .int .i64 a1.Y1]] [RE.rd k_Ar4_Int A1 cp2 a0.Color, RE.rd kInt A5 cp6 a0.Depth, RE.rd kInt A9 cp10 a0.Item, RE.rd kInt A13 cp14 a0.Tri] := H.below H2.base
 clear H2
 refine ⟨_, rfl, ?_⟩
 show RL _ _ _ _ _ _ _
 refine RL_pure (by exact wn0 rfl) (by rfl) (by rfl) (x_assign (v := .bool v22) (by rfl)) ?_
 refine RL_nil ?_
 refine W_seq ?_
 refine W_seq ?_
 refine W_region ?_
 refine RL_pure (by exact wn0 rfl) (by rfl) (by rfl) (x_move (v := .bool v22) (by rfl)) ?_
 refine RL_pure (by exact wn0 rfl) (by rfl) (by rfl) (x_not (by rfl)) ?_
 refine RL_nil ?_
 refine W_cond (by rfl) (fun hb => ?_) (fun hb => ?_)
 ·have hm := cond_t hb hm
  refine W_seq ?_
  refine W_region ?_
  refine RL_pure (by exact wn0 rfl) (by rfl) (by rfl) (x_assign (v := .bool false) (by rfl)) ?_
  refine RL_nil ?_
  refine W_ret ?_
  obtain rfl := Option.some.inj hm
  exact ⟨[.bool false], (.tmp (by rfl) rfl), rfl, H.none_⟩
 ·have hm := cond_f hb hm
  refine W_skip ?_
  refine W_seq ?_
  refine W_seq ?_
  refine W_region ?_
  refine RL_pure (by exact wn0 rfl) (by rfl) (by rfl) (x_loadA (j := 0) (vs := [.int .i64 a0.W, .int .i64 a0.H, .slice A1 a0.Color.length cp2, .slice A5 a0.Depth.length cp6, .slice A9 a0.Item.length cp10, .slice A13 a0.Tri.length cp14]) ag25 (by rfl) (H.cells (i := 0) (by rfl)) (by rfl) (by rfl)) ?_
  obtain ⟨v25, hv24, hm⟩ := bind_some hm
  refine RL_cons (O_call (by exact wn0 rfl) (by rfl) (by rfl) (x_callL (by rfl) (args := [.agg #[.int .i64 a0.W, .int .i64 a0.H, .slice A1 a0.Color.length cp2, .slice A5 a0.Depth.length cp6, .slice A9 a0.Item.length cp10, .slice A13 a0.Tri.length cp14]]) (by rfl) (cf11 _ _)) (c11 (fun _ => True) K w23 a0 A1 cp2 A5 cp6 A9 cp10 A13 cp14 (H.rd (i := 0) (by rfl)).any (H.rd (i := 1) (by rfl)).any (H.rd (i := 2) (by rfl)).any (H.rd (i := 3) (by rfl)).any v25 hv24) ?_)
  rintro e w26 ⟨rfl, H2⟩
  have H : Sep ok w w26 [.blk b17 25 [.int .i64 a0.W, .int .i64 a0.H, .slice A1 a0.Color.length cp2, .slice A5 a0.Depth.length cp6, .slice A9 a0.Item.length cp10, .slice A13 a0.Tri.length cp14], .blk b19 30 [.int .i64 a1.X0, .int .i64 a1.Y0, .int .i64 a1.X1, .int .i64 a1.Y1]] [RE.rd k_Ar4_Int A1 cp2 a0.Color, RE.rd kInt A5 cp6 a0.Depth, RE.rd kInt A9 cp10 a0.Item, RE.rd kInt A13 cp14 a0.Tri] := H.below H2.base
  clear H2
  refine ⟨_, rfl, ?_⟩
  show RL _ _ _ _ _ _ _
  refine RL_nil ?_
  refine W_cond (by rfl) (fun hb => ?_) (fun hb => ?_)
  ·have hm := cond_t hb hm
   refine W_seq ?_
   refine W_region ?_
   refine RL_pure (by exact wn0 rfl) (by rfl) (by rfl) (x_move (v := .bool v22) (by rfl)) ?_
   refine RL_pure (by exact wn0 rfl) (by rfl) (by rfl) (x_assign (v := .bool v22) (by rfl)) ?_
   refine RL_nil ?_
   refine W_ret ?_
   obtain rfl := Option.some.inj hm
   exact ⟨[.bool v22], (.tmp (by rfl) rfl), rfl, H.none_⟩
  ·have hm := cond_f hb hm
   refine W_skip ?_
   refine W_seq ?_
   refine W_region ?_
   refine RL_pure (by exact wn0 rfl) (by rfl) (by rfl) (x_loadA (j := 0) (vs := [.int .i64 a0.W, .int .i64 a0.H, .slice A1 a0.Color.length cp2, .slice A5 a0.Depth.length cp6, .slice A9 a0.Item.length cp10, .slice A13 a0.Tri.length cp14]) ag25 (by rfl) (H.cells (i := 0) (by rfl)) (by rfl) (by rfl)) ?_
   obtain ⟨v28, hv27, hm⟩ := bind_some hm
   refine RL_cons (O_call (by exact wn0 rfl) (by rfl) (by rfl) (x_callL (by rfl) (args := [.agg #[.int .i64 a0.W, .int .i64 a0.H, .slice A1 a0.Color.length cp2, .slice A5 a0.Depth.length cp6, .slice A9 a0.Item.length cp10, .slice A13 a0.Tri.length cp14]]) (by rfl) (cf15 _ _)) (c15 (okS ok w [.blk b17 25 [.int .i64 a0.W, .int .i64 a0.H, .slice A1 a0.Color.length cp2, .slice A5 a0.Depth.length cp6, .slice A9 a0.Item.length cp10, .slice A13 a0.Tri.length cp14], .blk b19 30 [.int .i64 a1.X0, .int .i64 a1.Y0, .int .i64 a1.X1, .int .i64 a1.Y1]]) K w26 a0 A1 cp2 A5 cp6 A9 cp10 A13 cp14 (H.rd (i := 0) (by rfl)) (H.rd (i := 1) (by rfl)) (H.rd (i := 2) (by rfl)) (H.rd (i := 3) (by rfl)) v28 hv27) ?_)
   rintro e w29 ⟨A30, cp31, rfl, H2⟩
   have H : Sep ok w w29 [.blk b17 25 [.int .i64 a0.W, .int .i64 a0.H, .slice A1 a0.Color.length cp2, .slice A5 a0.Depth.length cp6, .slice A9 a0.Item.length cp10, .slice A13 a0.Tri.length cp14], .blk b19 30 [.int .i64 a1.X0, .int .i64 a1.Y0, .int .i64 a1.X1, .int .i64 a1.Y1]] [RE.rd k_Ar4_Int A1 cp2 a0.Color, RE.rd kInt A5 cp6 a0.Depth, RE.rd kInt A9 cp10 a0.Item, RE.rd kInt A13 cp14 a0.Tri, RE.rd k_Level A30 cp31 v28.1.Levels] := H.call H2
   clear H2
   refine ⟨_, rfl, ?_⟩
   show RL _ _ _ _ _ _ _
   refine RL_pure (by exact wn0 rfl) (by rfl) (by rfl) (x_move (v := tup [.agg #[.slice A30 v28.1.Levels.length cp31], .int .i64 v28.2]) (by rfl)) ?_
   refine RL_pure (by exact wn0 rfl) (by rfl) (by rfl) (x_extract (v := .agg #[.slice A30 v28.1.Levels.length cp31]) (by rfl) (by rfl)) ?_
   refine RL_pure (by exact wn0 rfl) (by rfl) (by rfl) (x_extract (v := .int .i64 v28.2) (by rfl) (by rfl)) ?_
   refine RL_cons (O_alloc (by exact wn0 rfl) (by rfl) ze28 (by rfl) H (fun w34 b33 (H : Sep ok w w34 [.blk b17 25 [.int .i64 a0.W, .int .i64 a0.H, .slice A1 a0.Color.length cp2, .slice A5 a0.Depth.length cp6, .slice A9 a0.Item.length cp10, .slice A13 a0.Tri.length cp14], .blk b19 30 [.int .i64 a1.X0, .int .i64 a1.Y0, .int .i64 a1.X1, .int .i64 a1.Y1], .blk b33 28 [.slice none 0 0]] [RE.rd k_Ar4_Int A1 cp2 a0.Color, RE.rd kInt A5 cp6 a0.Depth, RE.rd kInt A9 cp10 a0.Item, RE.rd kInt A13 cp14 a0.Tri, RE.rd k_Level A30 cp31 v28.1.Levels]) => ?_))
   refine RL_cons (O_store (i := 2) (off := 0) (by exact wn0 rfl) (by rfl) (by rfl) H (by rfl) (vs := [.slice A30 v28.1.Levels.length cp31]) (by rfl) sz28 (by rfl) (by rfl) (by rfl) (fun w35 (H : Sep ok w w35 [.blk b17 25 [.int .i64 a0.W, .int .i64 a0.H, .slice A1 a0.Color.length cp2, .slice A5 a0.Depth.length cp6, .slice A9 a0.Item.length cp10, .slice A13 a0.Tri.length cp14], .blk b19 30 [.int .i64 a1.X0, .int .i64 a1.Y0, .int .i64 a1.X1, .int .i64 a1.Y1], .blk b33 28 [.slice A30 v28.1.Levels.length cp31]] [RE.rd k_Ar4_Int A1 cp2 a0.Color, RE.rd kInt A5 cp6 a0.Depth, RE.rd kInt A9 cp10 a0.Item, RE.rd kInt A13 cp14 a0.Tri, RE.rd k_Level A30 cp31 v28.1.Levels]) => ?_))
   refine RL_pure (by exact wn0 rfl) (by rfl) (by rfl) (x_assign (v := .int .i64 v28.2) (by rfl)) ?_
   refine RL_nil ?_
   refine W_seq ?_
   refine W_seq ?_
   refine W_region ?_
   refine RL_pure (by exact wn0 rfl) (by rfl) (by rfl) (x_move (v := .int .i64 v28.2) (by rfl)) ?_
   refine RL_pure (by exact wn0 rfl) (by rfl) (by rfl) (x_neq (by rfl) (by rfl)) ?_
   refine RL_nil ?_
   refine W_cond (by rfl) (fun hb => ?_) (fun hb => ?_)
   ·have hm := cond_t hb hm
    refine W_seq ?_
    refine W_region ?_
    refine RL_pure (by exact wn0 rfl) (by rfl) (by rfl) (x_move (v := .bool v22) (by rfl)) ?_
    refine RL_pure (by exact wn0 rfl) (by rfl) (by rfl) (x_move (v := .bool v22) (by rfl)) ?_
    obtain ⟨b36, hmS, hm⟩ := bind_some hm
    refine RL_cut 5 (fun r' w' => Agr [(38, .bool b36)] r' ∧ Sep ok w w' [.blk b17 25 [.int .i64 a0.W, .int .i64 a0.H, .slice A1 a0.Color.length cp2, .slice A5 a0.Depth.length cp6, .slice A9 a0.Item.length cp10, .slice A13 a0.Tri.length cp14], .blk b19 30 [.int .i64 a1.X0, .int .i64 a1.Y0, .int .i64 a1.X1, .int .i64 a1.Y1], .blk b33 28 [.slice A30 v28.1.Levels.length cp31]] [RE.rd k_Ar4_Int A1 cp2 a0.Color, RE.rd kInt A5 cp6 a0.Depth, RE.rd kInt A9 cp10 a0.Item, RE.rd kInt A13 cp14 a0.Tri, RE.rd k_Level A30 cp31 v28.1.Levels]) ?_ ?_
    ·cases hbS : v22
     ·have hm := cond_f hbS hmS
      refine RL_cons (OpR_off (by exact wn2 rfl rfl rfl rfl) (by rfl) (by rfl) ?_)
      refine RL_cons (OpR_off (by exact wn2 rfl rfl rfl rfl) (by rfl) (by rfl) ?_)
      refine RL_cons (OpR_off (by exact wn2 rfl rfl rfl rfl) (by rfl) (by rfl) ?_)
      refine RL_cons (OpR_off (by exact wn2 rfl rfl rfl rfl) (by rfl) (by rfl) ?_)
      refine RL_pure (by exact wn0 rfl) (by rfl) (by rfl) (x_pick_f (v := .bool false) (by rfl) (by rfl)) ?_
      refine RL_nil ?_
      exact ⟨⟨congrArg Value.bool (Option.some.inj hm), trivial⟩, H⟩
     ·have hm := cond_t hbS hmS
      refine RL_pure (by exact wn1 rfl rfl rfl rfl) (by rfl) (by rfl) (x_fieldAddr fo28_0 (by rfl)) ?_
      refine RL_pure (by exact wn1 rfl rfl rfl rfl) (by rfl) (by rfl) (x_load (j := 0) (v := .slice A30 v28.1.Levels.length cp31) sc26 (by rfl) (H.cells (i := 2) (by rfl)) (by rfl)) ?_
      refine RL_pure (by exact wn1 rfl rfl rfl rfl) (by rfl) (by rfl) (x_len sl26 (by rfl)) ?_
      refine RL_pure (by exact wn1 rfl rfl rfl rfl) (by rfl) (by rfl) (x_eql (by rfl) (by rfl)) ?_
      refine RL_pure (by exact wn0 rfl) (by rfl) (by rfl) (x_pick_t (v := .bool ((v28.1.Levels.length : Int) == 0)) (by rfl) (by rfl)) ?_
      refine RL_nil ?_
      exact ⟨⟨congrArg Value.bool (Option.some.inj hm), trivial⟩, H⟩
    ·rintro r' w' ⟨hA, H⟩
     obtain ⟨r37, rfl⟩ := regen _ hA; clear hA
     obtain ⟨w38, rfl⟩ : ∃ W : World, W = w' := ⟨_, rfl⟩
     show RL _ _ _ _ _ _ _
     refine RL_pure (by exact wn0 rfl) (by rfl) (by rfl) (x_assign (v := .bool b36) (by rfl)) ?_
     refine RL_nil ?_
     refine W_ret ?_
     obtain rfl := Option.some.inj hm
     exact ⟨[.bool b36], (.tmp (by rfl) rfl), rfl, H.none_⟩
   ·have hm := cond_f hb hm
    refine W_skip ?_
    refine W_seq ?_
    refine W_region ?_
    refine RL_pure (by exact wn0 rfl) (by rfl) (by rfl) (x_assign (v := .int .i64 1) (by rfl)) ?_
    refine RL_nil ?_
    refine W_seq ?_
    refine W_seq ?_
    refine W_region ?_
    refine RL_pure (by exact wn0 rfl) (by rfl) (by rfl) (x_assign (v := .int .i64 0) (by rfl)) ?_
    refine RL_nil ?_
    refine W_block ?_
    refine W_loop (fun k1 r' w' => ∃ (y8_1 : Int), ∃ (y9_1 : Int), m5_l1 K a0 a1 v22 v28 k1 y8_1 y9_1 = some res ∧ Agr [(2, .pointer (some ⟨b17, 0, none⟩)), (3, .pointer (some ⟨b19, 0, none⟩)), (5, .bool v22), (6, .pointer (some ⟨b33, 0, none⟩)), (8, .int .i64 y8_1), (9, .int .i64 y9_1)] r' ∧ Sep ok w w' [.blk b17 25 [.int .i64 a0.W, .int .i64 a0.H, .slice A1 a0.Color.length cp2, .slice A5 a0.Depth.length cp6, .slice A9 a0.Item.length cp10, .slice A13 a0.Tri.length cp14], .blk b19 30 [.int .i64 a1.X0, .int .i64 a1.Y0, .int .i64 a1.X1, .int .i64 a1.Y1], .blk b33 28 [.slice A30 v28.1.Levels.length cp31]] [RE.rd k_Ar4_Int A1 cp2 a0.Color, RE.rd kInt A5 cp6 a0.Depth, RE.rd kInt A9 cp10 a0.Item, RE.rd kInt A13 cp14 a0.Tri, RE.rd k_Level A30 cp31 v28.1.Levels]) K ?_ ?_
    ·exact ⟨1, 0, hm, ⟨rfl, rfl, rfl, rfl, rfl, rfl, trivial⟩, H⟩
    ·rintro k1 r' w' ⟨y8_1, y9_1, hm, hA, H⟩
     obtain ⟨r39, rfl⟩ := regen _ hA; clear hA
     obtain ⟨w40, rfl⟩ : ∃ W : World, W = w' := ⟨_, rfl⟩
     cases k1 with
     | zero => exact (none_some hm).elim
     | succ k1 =>
      have hm : m5_l1b K a0 a1 v22 v28 (m5_l1 K a0 a1 v22 v28 k1) y8_1 y9_1 = some res := hm
      unfold m5_l1b at hm
      obtain ⟨rec1, hrec1⟩ : ∃ f, m5_l1 K a0 a1 v22 v28 k1 = f := ⟨_, rfl⟩
      rw [hrec1] at hm
      refine W_seq ?_
      refine W_seq ?_
      refine W_region ?_
      refine RL_pure (by exact wn0 rfl) (by rfl) (by rfl) (x_move (v := .int .i64 y9_1) (by rfl)) ?_
      refine RL_pure (by exact wn0 rfl) (by rfl) (by rfl) (x_fieldAddr fo28_0 (by rfl)) ?_
      refine RL_pure (by exact wn0 rfl) (by rfl) (by rfl) (x_load (j := 0) (v := .slice A30 v28.1.Levels.length cp31) sc26 (by rfl) (H.cells (i := 2) (by rfl)) (by rfl)) ?_
      refine RL_pure (by exact wn0 rfl) (by rfl) (by rfl) (x_len sl26 (by rfl)) ?_
      refine RL_pure (by exact wn0 rfl) (by rfl) (by rfl) (x_lss (by rfl) (by rfl)) ?_
      refine RL_nil ?_
      refine W_cond (by rfl) (fun hb => ?_) (fun hb => ?_)
      ·have hm := cond_t hb hm
       refine W_skip ?_
       refine W_seq ?_
       refine W_block ?_
       refine W_seq ?_
       refine W_region ?_
       refine RL_pure (by exact wn0 rfl) (by rfl) (by rfl) (x_fieldAddr fo28_0 (by rfl)) ?_
       refine RL_pure (by exact wn0 rfl) (by rfl) (by rfl) (x_load (j := 0) (v := .slice A30 v28.1.Levels.length cp31) sc26 (by rfl) (H.cells (i := 2) (by rfl)) (by rfl)) ?_
       refine RL_pure (by exact wn0 rfl) (by rfl) (by rfl) (x_move (v := .int .i64 y9_1) (by rfl)) ?_
       obtain ⟨el41, h42, h43, he44, hm⟩ := idx_some hm
       obtain ⟨g46, o47, hA45⟩ := (H.rd (i := 4) (by rfl)).addr he44
       obtain ⟨cs48, hk49, hat50, hg_cs48⟩ := (H.rd (i := 4) (by rfl)).openAt hA45 he44
       obtain ⟨A53, cp54, rfl, hR56⟩ := hk49
       have H : Sep ok w w40 [.blk b17 25 [.int .i64 a0.W, .int .i64 a0.H, .slice A1 a0.Color.length cp2, .slice A5 a0.Depth.length cp6, .slice A9 a0.Item.length cp10, .slice A13 a0.Tri.length cp14], .blk b19 30 [.int .i64 a1.X0, .int .i64 a1.Y0, .int .i64 a1.X1, .int .i64 a1.Y1], .blk b33 28 [.slice A30 v28.1.Levels.length cp31]] [RE.rd k_Ar4_Int A1 cp2 a0.Color, RE.rd kInt A5 cp6 a0.Depth, RE.rd kInt A9 cp10 a0.Item, RE.rd kInt A13 cp14 a0.Tri, RE.rd k_Level A30 cp31 v28.1.Levels, RE.cells g46 (o47 + (y9_1).toNat * 3) [.int .i64 el41.W, .int .i64 el41.H, .slice A53 el41.Low.length cp54]] := Sep.also H (re := RE.cells g46 (o47 + (y9_1).toNat * 3) [.int .i64 el41.W, .int .i64 el41.H, .slice A53 el41.Low.length cp54]) ⟨hg_cs48.1, hg_cs48.2, hat50⟩
       have H : Sep ok w w40 [.blk b17 25 [.int .i64 a0.W, .int .i64 a0.H, .slice A1 a0.Color.length cp2, .slice A5 a0.Depth.length cp6, .slice A9 a0.Item.length cp10, .slice A13 a0.Tri.length cp14], .blk b19 30 [.int .i64 a1.X0, .int .i64 a1.Y0, .int .i64 a1.X1, .int .i64 a1.Y1], .blk b33 28 [.slice A30 v28.1.Levels.length cp31]] [RE.rd k_Ar4_Int A1 cp2 a0.Color, RE.rd kInt A5 cp6 a0.Depth, RE.rd kInt A9 cp10 a0.Item, RE.rd kInt A13 cp14 a0.Tri, RE.rd k_Level A30 cp31 v28.1.Levels, RE.cells g46 (o47 + (y9_1).toNat * 3) [.int .i64 el41.W, .int .i64 el41.H, .slice A53 el41.Low.length cp54], RE.rd kInt A53 cp54 el41.Low] := Sep.also H (re := RE.rd kInt A53 cp54 el41.Low) hR56
       refine RL_pure (by exact wn0 rfl) (by rfl) (by rfl) (x_indexAddr sl26 sz54 (by rfl) (by rfl) hA45 h42 h43) ?_
       refine RL_pure (by exact wn0 rfl) (by rfl) (by rfl) (x_loadA (j := 0) (vs := [.int .i64 el41.W, .int .i64 el41.H, .slice A53 el41.Low.length cp54]) ag54 (by rfl) (H.cellsR (i := 5) (by rfl)) (by rfl) (by rfl)) ?_
       refine RL_cons (O_alloc (by exact wn0 rfl) (by rfl) ze54 (by rfl) H (fun w59 b58 (H : Sep ok w w59 [.blk b17 25 [.int .i64 a0.W, .int .i64 a0.H, .slice A1 a0.Color.length cp2, .slice A5 a0.Depth.length cp6, .slice A9 a0.Item.length cp10, .slice A13 a0.Tri.length cp14], .blk b19 30 [.int .i64 a1.X0, .int .i64 a1.Y0, .int .i64 a1.X1, .int .i64 a1.Y1], .blk b33 28 [.slice A30 v28.1.Levels.length cp31], .blk b58 54 [.int .i64 0, .int .i64 0, .slice none 0 0]] [RE.rd k_Ar4_Int A1 cp2 a0.Color, RE.rd kInt A5 cp6 a0.Depth, RE.rd kInt A9 cp10 a0.Item, RE.rd kInt A13 cp14 a0.Tri, RE.rd k_Level A30 cp31 v28.1.Levels, RE.cells g46 (o47 + (y9_1).toNat * 3) [.int .i64 el41.W, .int .i64 el41.H, .slice A53 el41.Low.length cp54], RE.rd kInt A53 cp54 el41.Low]) => ?_))
       refine RL_cons (O_store (i := 3) (off := 0) (by exact wn0 rfl) (by rfl) (by rfl) H (by rfl) (vs := [.int .i64 el41.W, .int .i64 el41.H, .slice A53 el41.Low.length cp54]) (by rfl) sz54 (by rfl) (by rfl) (by rfl) (fun w60 (H : Sep ok w w60 [.blk b17 25 [.int .i64 a0.W, .int .i64 a0.H, .slice A1 a0.Color.length cp2, .slice A5 a0.Depth.length cp6, .slice A9 a0.Item.length cp10, .slice A13 a0.Tri.length cp14], .blk b19 30 [.int .i64 a1.X0, .int .i64 a1.Y0, .int .i64 a1.X1, .int .i64 a1.Y1], .blk b33 28 [.slice A30 v28.1.Levels.length cp31], .blk b58 54 [.int .i64 el41.W, .int .i64 el41.H, .slice A53 el41.Low.length cp54]] [RE.rd k_Ar4_Int A1 cp2 a0.Color, RE.rd kInt A5 cp6 a0.Depth, RE.rd kInt A9 cp10 a0.Item, RE.rd kInt A13 cp14 a0.Tri, RE.rd k_Level A30 cp31 v28.1.Levels, RE.cells g46 (o47 + (y9_1).toNat * 3) [.int .i64 el41.W, .int .i64 el41.H, .slice A53 el41.Low.length cp54], RE.rd kInt A53 cp54 el41.Low]) => ?_))
       refine RL_nil ?_
       refine W_seq ?_
       refine W_seq ?_
       refine W_region ?_
       refine RL_pure (by exact wn0 rfl) (by rfl) (by rfl) (x_fieldAddr fo54_0 (by rfl)) ?_
       refine RL_pure (by exact wn0 rfl) (by rfl) (by rfl) (x_load (j := 0) (v := .int .i64 el41.W) sc3 (by rfl) (H.cells (i := 3) (by rfl)) (by rfl)) ?_
       refine RL_pure (by exact wn0 rfl) (by rfl) (by rfl) (x_lss (by rfl) (by rfl)) ?_
       refine RL_pure (by exact wn0 rfl) (by rfl) (by rfl) (x_move (v := .bool (decide (el41.W < 1))) (by rfl)) ?_
       obtain ⟨b61, hmS, hm⟩ := bind_some hm
       refine RL_cut 4 (fun r' w' => Agr [(58, .bool b61), (2, .pointer (some ⟨b17, 0, none⟩)), (3, .pointer (some ⟨b19, 0, none⟩)), (5, .bool v22), (6, .pointer (some ⟨b33, 0, none⟩)), (8, .int .i64 y8_1), (9, .int .i64 y9_1), (10, .pointer (some ⟨b58, 0, none⟩))] r' ∧ Sep ok w w' [.blk b17 25 [.int .i64 a0.W, .int .i64 a0.H, .slice A1 a0.Color.length cp2, .slice A5 a0.Depth.length cp6, .slice A9 a0.Item.length cp10, .slice A13 a0.Tri.length cp14], .blk b19 30 [.int .i64 a1.X0, .int .i64 a1.Y0, .int .i64 a1.X1, .int .i64 a1.Y1], .blk b33 28 [.slice A30 v28.1.Levels.length cp31], .blk b58 54 [.int .i64 el41.W, .int .i64 el41.H, .slice A53 el41.Low.length cp54]] [RE.rd k_Ar4_Int A1 cp2 a0.Color, RE.rd kInt A5 cp6 a0.Depth, RE.rd kInt A9 cp10 a0.Item, RE.rd kInt A13 cp14 a0.Tri, RE.rd k_Level A30 cp31 v28.1.Levels, RE.cells g46 (o47 + (y9_1).toNat * 3) [.int .i64 el41.W, .int .i64 el41.H, .slice A53 el41.Low.length cp54], RE.rd kInt A53 cp54 el41.Low]) ?_ ?_
       ·cases hbS : (decide (el41.W < 1))
        ·have hm := cond_f hbS hmS
         refine RL_pure (by exact wn1 rfl rfl rfl rfl) (by rfl) (by rfl) (x_fieldAddr fo54_1 (by rfl)) ?_
         refine RL_pure (by exact wn1 rfl rfl rfl rfl) (by rfl) (by rfl) (x_load (j := 1) (v := .int .i64 el41.H) sc3 (by rfl) (H.cells (i := 3) (by rfl)) (by rfl)) ?_
         refine RL_pure (by exact wn1 rfl rfl rfl rfl) (by rfl) (by rfl) (x_lss (by rfl) (by rfl)) ?_
         refine RL_pure (by exact wn0 rfl) (by rfl) (by rfl) (x_pick_f (v := .bool (decide (el41.H < 1))) (by rfl) (by rfl)) ?_
         refine RL_nil ?_
         exact ⟨⟨congrArg Value.bool (Option.some.inj hm), rfl, rfl, rfl, rfl, rfl, rfl, rfl, trivial⟩, H⟩
        ·have hm := cond_t hbS hmS
         refine RL_cons (OpR_off (by exact wn2 rfl rfl rfl rfl) (by rfl) (by rfl) ?_)
         refine RL_cons (OpR_off (by exact wn2 rfl rfl rfl rfl) (by rfl) (by rfl) ?_)
         refine RL_cons (OpR_off (by exact wn2 rfl rfl rfl rfl) (by rfl) (by rfl) ?_)
         refine RL_pure (by exact wn0 rfl) (by rfl) (by rfl) (x_pick_t (v := .bool true) (by rfl) (by rfl)) ?_
         refine RL_nil ?_
         exact ⟨⟨congrArg Value.bool (Option.some.inj hm), rfl, rfl, rfl, rfl, rfl, rfl, rfl, trivial⟩, H⟩
       ·rintro r' w' ⟨hA, H⟩
        obtain ⟨r62, rfl⟩ := regen _ hA; clear hA
        obtain ⟨w63, rfl⟩ : ∃ W : World, W = w' := ⟨_, rfl⟩
        show RL _ _ _ _ _ _ _
        refine RL_pure (by exact wn0 rfl) (by rfl) (by rfl) (x_move (v := .bool b61) (by rfl)) ?_
        obtain ⟨b64, hmS, hm⟩ := bind_some hm
        refine RL_cut 10 (fun r' w' => Agr [(69, .bool b64), (2, .pointer (some ⟨b17, 0, none⟩)), (3, .pointer (some ⟨b19, 0, none⟩)), (5, .bool v22), (6, .pointer (some ⟨b33, 0, none⟩)), (8, .int .i64 y8_1), (9, .int .i64 y9_1), (10, .pointer (some ⟨b58, 0, none⟩))] r' ∧ Sep ok w w' [.blk b17 25 [.int .i64 a0.W, .int .i64 a0.H, .slice A1 a0.Color.length cp2, .slice A5 a0.Depth.length cp6, .slice A9 a0.Item.length cp10, .slice A13 a0.Tri.length cp14], .blk b19 30 [.int .i64 a1.X0, .int .i64 a1.Y0, .int .i64 a1.X1, .int .i64 a1.Y1], .blk b33 28 [.slice A30 v28.1.Levels.length cp31], .blk b58 54 [.int .i64 el41.W, .int .i64 el41.H, .slice A53 el41.Low.length cp54]] [RE.rd k_Ar4_Int A1 cp2 a0.Color, RE.rd kInt A5 cp6 a0.Depth, RE.rd kInt A9 cp10 a0.Item, RE.rd kInt A13 cp14 a0.Tri, RE.rd k_Level A30 cp31 v28.1.Levels, RE.cells g46 (o47 + (y9_1).toNat * 3) [.int .i64 el41.W, .int .i64 el41.H, .slice A53 el41.Low.length cp54], RE.rd kInt A53 cp54 el41.Low]) ?_ ?_
        ·cases hbS : b61
         ·have hm := cond_f hbS hmS
          refine RL_pure (by exact wn1 rfl rfl rfl rfl) (by rfl) (by rfl) (x_fieldAddr fo54_2 (by rfl)) ?_
          refine RL_pure (by exact wn1 rfl rfl rfl rfl) (by rfl) (by rfl) (x_load (j := 2) (v := .slice A53 el41.Low.length cp54) sc23 (by rfl) (H.cells (i := 3) (by rfl)) (by rfl)) ?_
          refine RL_pure (by exact wn1 rfl rfl rfl rfl) (by rfl) (by rfl) (x_len sl23 (by rfl)) ?_
          refine RL_pure (by exact wn1 rfl rfl rfl rfl) (by rfl) (by rfl) (x_fieldAddr fo54_0 (by rfl)) ?_
          refine RL_pure (by exact wn1 rfl rfl rfl rfl) (by rfl) (by rfl) (x_load (j := 0) (v := .int .i64 el41.W) sc3 (by rfl) (H.cells (i := 3) (by rfl)) (by rfl)) ?_
          refine RL_pure (by exact wn1 rfl rfl rfl rfl) (by rfl) (by rfl) (x_fieldAddr fo54_1 (by rfl)) ?_
          refine RL_pure (by exact wn1 rfl rfl rfl rfl) (by rfl) (by rfl) (x_load (j := 1) (v := .int .i64 el41.H) sc3 (by rfl) (H.cells (i := 3) (by rfl)) (by rfl)) ?_
          obtain ⟨x65, ex65, qx65, ux65, hm⟩ := ck_some hm
          refine RL_pure (by exact wn1 rfl rfl rfl rfl) (by rfl) (by rfl) (x_mul (by rfl) (by rfl) ux65) ?_
          refine RL_pure (by exact wn1 rfl rfl rfl rfl) (by rfl) (by rfl) (x_neq (by rfl) (by rfl)) ?_
          refine RL_pure (by exact wn0 rfl) (by rfl) (by rfl) (x_pick_f (v := .bool ((el41.Low.length : Int) != x65)) (by rfl) (by rfl)) ?_
          refine RL_nil ?_
          exact ⟨⟨congrArg Value.bool (Option.some.inj hm), rfl, rfl, rfl, rfl, rfl, rfl, rfl, trivial⟩, H⟩
         ·have hm := cond_t hbS hmS
          refine RL_cons (OpR_off (by exact wn2 rfl rfl rfl rfl) (by rfl) (by rfl) ?_)
          refine RL_cons (OpR_off (by exact wn2 rfl rfl rfl rfl) (by rfl) (by rfl) ?_)
          refine RL_cons (OpR_off (by exact wn2 rfl rfl rfl rfl) (by rfl) (by rfl) ?_)
          refine RL_cons (OpR_off (by exact wn2 rfl rfl rfl rfl) (by rfl) (by rfl) ?_)
          refine RL_cons (OpR_off (by exact wn2 rfl rfl rfl rfl) (by rfl) (by rfl) ?_)
          refine RL_cons (OpR_off (by exact wn2 rfl rfl rfl rfl) (by rfl) (by rfl) ?_)
          refine RL_cons (OpR_off (by exact wn2 rfl rfl rfl rfl) (by rfl) (by rfl) ?_)
          refine RL_cons (OpR_off (by exact wn2 rfl rfl rfl rfl) (by rfl) (by rfl) ?_)
          refine RL_cons (OpR_off (by exact wn2 rfl rfl rfl rfl) (by rfl) (by rfl) ?_)
          refine RL_pure (by exact wn0 rfl) (by rfl) (by rfl) (x_pick_t (v := .bool true) (by rfl) (by rfl)) ?_
          refine RL_nil ?_
          exact ⟨⟨congrArg Value.bool (Option.some.inj hm), rfl, rfl, rfl, rfl, rfl, rfl, rfl, trivial⟩, H⟩
        ·rintro r' w' ⟨hA, H⟩
         obtain ⟨r66, rfl⟩ := regen _ hA; clear hA
         obtain ⟨w67, rfl⟩ : ∃ W : World, W = w' := ⟨_, rfl⟩
         show RL _ _ _ _ _ _ _
         refine RL_pure (by exact wn0 rfl) (by rfl) (by rfl) (x_move (v := .bool b64) (by rfl)) ?_
         obtain ⟨b68, hmS, hm⟩ := bind_some hm
         refine RL_cut 16 (fun r' w' => Agr [(86, .bool b68), (2, .pointer (some ⟨b17, 0, none⟩)), (3, .pointer (some ⟨b19, 0, none⟩)), (5, .bool v22), (6, .pointer (some ⟨b33, 0, none⟩)), (8, .int .i64 y8_1), (9, .int .i64 y9_1), (10, .pointer (some ⟨b58, 0, none⟩))] r' ∧ Sep ok w w' [.blk b17 25 [.int .i64 a0.W, .int .i64 a0.H, .slice A1 a0.Color.length cp2, .slice A5 a0.Depth.length cp6, .slice A9 a0.Item.length cp10, .slice A13 a0.Tri.length cp14], .blk b19 30 [.int .i64 a1.X0, .int .i64 a1.Y0, .int .i64 a1.X1, .int .i64 a1.Y1], .blk b33 28 [.slice A30 v28.1.Levels.length cp31], .blk b58 54 [.int .i64 el41.W, .int .i64 el41.H, .slice A53 el41.Low.length cp54]] [RE.rd k_Ar4_Int A1 cp2 a0.Color, RE.rd kInt A5 cp6 a0.Depth, RE.rd kInt A9 cp10 a0.Item, RE.rd kInt A13 cp14 a0.Tri, RE.rd k_Level A30 cp31 v28.1.Levels, RE.cells g46 (o47 + (y9_1).toNat * 3) [.int .i64 el41.W, .int .i64 el41.H, .slice A53 el41.Low.length cp54], RE.rd kInt A53 cp54 el41.Low]) ?_ ?_
         ·cases hbS : b64
          ·have hm := cond_f hbS hmS
           refine RL_pure (by exact wn1 rfl rfl rfl rfl) (by rfl) (by rfl) (x_fieldAddr fo54_0 (by rfl)) ?_
           refine RL_pure (by exact wn1 rfl rfl rfl rfl) (by rfl) (by rfl) (x_load (j := 0) (v := .int .i64 el41.W) sc3 (by rfl) (H.cells (i := 3) (by rfl)) (by rfl)) ?_
           refine RL_pure (by exact wn1 rfl rfl rfl rfl) (by rfl) (by rfl) (x_eql (by rfl) (by rfl)) ?_
           refine RL_pure (by exact wn1 rfl rfl rfl rfl) (by rfl) (by rfl) (x_move (v := .bool (el41.W == 1)) (by rfl)) ?_
           obtain ⟨b69, hmS, hm⟩ := bind_some hm
           refine RL_cut 4 (fun r' w' => Agr [(78, .bool b69), (2, .pointer (some ⟨b17, 0, none⟩)), (3, .pointer (some ⟨b19, 0, none⟩)), (5, .bool v22), (6, .pointer (some ⟨b33, 0, none⟩)), (8, .int .i64 y8_1), (9, .int .i64 y9_1), (10, .pointer (some ⟨b58, 0, none⟩)), (70, .bool false)] r' ∧ Sep ok w w' [.blk b17 25 [.int .i64 a0.W, .int .i64 a0.H, .slice A1 a0.Color.length cp2, .slice A5 a0.Depth.length cp6, .slice A9 a0.Item.length cp10, .slice A13 a0.Tri.length cp14], .blk b19 30 [.int .i64 a1.X0, .int .i64 a1.Y0, .int .i64 a1.X1, .int .i64 a1.Y1], .blk b33 28 [.slice A30 v28.1.Levels.length cp31], .blk b58 54 [.int .i64 el41.W, .int .i64 el41.H, .slice A53 el41.Low.length cp54]] [RE.rd k_Ar4_Int A1 cp2 a0.Color, RE.rd kInt A5 cp6 a0.Depth, RE.rd kInt A9 cp10 a0.Item, RE.rd kInt A13 cp14 a0.Tri, RE.rd k_Level A30 cp31 v28.1.Levels, RE.cells g46 (o47 + (y9_1).toNat * 3) [.int .i64 el41.W, .int .i64 el41.H, .slice A53 el41.Low.length cp54], RE.rd kInt A53 cp54 el41.Low]) ?_ ?_
           ·cases hbS : (el41.W == 1)
            ·have hm := cond_f hbS hmS
             refine RL_cons (OpR_off (by exact wn2 rfl rfl rfl rfl) (by rfl) (by rfl) ?_)
             refine RL_cons (OpR_off (by exact wn2 rfl rfl rfl rfl) (by rfl) (by rfl) ?_)
             refine RL_cons (OpR_off (by exact wn2 rfl rfl rfl rfl) (by rfl) (by rfl) ?_)
             refine RL_pure (by exact wn1 rfl rfl rfl rfl) (by rfl) (by rfl) (x_pick_f (v := .bool false) (by rfl) (by rfl)) ?_
             refine RL_nil ?_
             exact ⟨⟨congrArg Value.bool (Option.some.inj hm), rfl, rfl, rfl, rfl, rfl, rfl, rfl, rfl, trivial⟩, H⟩
            ·have hm := cond_t hbS hmS
             refine RL_pure (by exact wn1 rfl rfl rfl rfl) (by rfl) (by rfl) (x_fieldAddr fo54_1 (by rfl)) ?_
             refine RL_pure (by exact wn1 rfl rfl rfl rfl) (by rfl) (by rfl) (x_load (j := 1) (v := .int .i64 el41.H) sc3 (by rfl) (H.cells (i := 3) (by rfl)) (by rfl)) ?_
             refine RL_pure (by exact wn1 rfl rfl rfl rfl) (by rfl) (by rfl) (x_eql (by rfl) (by rfl)) ?_
             refine RL_pure (by exact wn1 rfl rfl rfl rfl) (by rfl) (by rfl) (x_pick_t (v := .bool (el41.H == 1)) (by rfl) (by rfl)) ?_
             refine RL_nil ?_
             exact ⟨⟨congrArg Value.bool (Option.some.inj hm), rfl, rfl, rfl, rfl, rfl, rfl, rfl, rfl, trivial⟩, H⟩
           ·rintro r' w' ⟨hA, H⟩
            obtain ⟨r70, rfl⟩ := regen _ hA; clear hA
            obtain ⟨w71, rfl⟩ : ∃ W : World, W = w' := ⟨_, rfl⟩
            show RL _ _ _ _ _ _ _
            refine RL_pure (by exact wn1 rfl rfl rfl rfl) (by rfl) (by rfl) (x_move (v := .int .i64 y9_1) (by rfl)) ?_
            refine RL_pure (by exact wn1 rfl rfl rfl rfl) (by rfl) (by rfl) (x_fieldAddr fo28_0 (by rfl)) ?_
            refine RL_pure (by exact wn1 rfl rfl rfl rfl) (by rfl) (by rfl) (x_load (j := 0) (v := .slice A30 v28.1.Levels.length cp31) sc26 (by rfl) (H.cells (i := 2) (by rfl)) (by rfl)) ?_
            refine RL_pure (by exact wn1 rfl rfl rfl rfl) (by rfl) (by rfl) (x_len sl26 (by rfl)) ?_
            obtain ⟨x72, ex72, qx72, ux72, hm⟩ := ck_some hm
            refine RL_pure (by exact wn1 rfl rfl rfl rfl) (by rfl) (by rfl) (x_sub (by rfl) (by rfl) ux72) ?_
            refine RL_pure (by exact wn1 rfl rfl rfl rfl) (by rfl) (by rfl) (x_eql (by rfl) (by rfl)) ?_
            refine RL_pure (by exact wn1 rfl rfl rfl rfl) (by rfl) (by rfl) (x_neqb un4 (by rfl) (by rfl)) ?_
            refine RL_pure (by exact wn0 rfl) (by rfl) (by rfl) (x_pick_f (v := .bool (!(b69 == (y9_1 == x72)))) (by rfl) (by rfl)) ?_
            refine RL_nil ?_
            exact ⟨⟨congrArg Value.bool (Option.some.inj hm), rfl, rfl, rfl, rfl, rfl, rfl, rfl, trivial⟩, H⟩
          ·have hm := cond_t hbS hmS
           refine RL_cons (OpR_off (by exact wn2 rfl rfl rfl rfl) (by rfl) (by rfl) ?_)
           refine RL_cons (OpR_off (by exact wn2 rfl rfl rfl rfl) (by rfl) (by rfl) ?_)
           refine RL_cons (OpR_off (by exact wn2 rfl rfl rfl rfl) (by rfl) (by rfl) ?_)
           refine RL_cons (OpR_off (by exact wn2 rfl rfl rfl rfl) (by rfl) (by rfl) ?_)
           refine RL_cons (OpR_off (by exact wn3 rfl rfl rfl) (by rfl) (by rfl) ?_)
           refine RL_cons (OpR_off (by exact wn3 rfl rfl rfl) (by rfl) (by rfl) ?_)
           refine RL_cons (OpR_off (by exact wn3 rfl rfl rfl) (by rfl) (by rfl) ?_)
           refine RL_cons (OpR_off (by exact wn2 rfl rfl rfl rfl) (by rfl) (by rfl) ?_)
           refine RL_cons (OpR_off (by exact wn2 rfl rfl rfl rfl) (by rfl) (by rfl) ?_)
           refine RL_cons (OpR_off (by exact wn2 rfl rfl rfl rfl) (by rfl) (by rfl) ?_)
           refine RL_cons (OpR_off (by exact wn2 rfl rfl rfl rfl) (by rfl) (by rfl) ?_)
           refine RL_cons (OpR_off (by exact wn2 rfl rfl rfl rfl) (by rfl) (by rfl) ?_)
           refine RL_cons (OpR_off (by exact wn2 rfl rfl rfl rfl) (by rfl) (by rfl) ?_)
           refine RL_cons (OpR_off (by exact wn2 rfl rfl rfl rfl) (by rfl) (by rfl) ?_)
           refine RL_cons (OpR_off (by exact wn2 rfl rfl rfl rfl) (by rfl) (by rfl) ?_)
           refine RL_pure (by exact wn0 rfl) (by rfl) (by rfl) (x_pick_t (v := .bool true) (by rfl) (by rfl)) ?_
           refine RL_nil ?_
           exact ⟨⟨congrArg Value.bool (Option.some.inj hm), rfl, rfl, rfl, rfl, rfl, rfl, rfl, trivial⟩, H⟩
         ·rintro r' w' ⟨hA, H⟩
          obtain ⟨r73, rfl⟩ := regen _ hA; clear hA
          obtain ⟨w74, rfl⟩ : ∃ W : World, W = w' := ⟨_, rfl⟩
          show RL _ _ _ _ _ _ _
          refine RL_nil ?_
          refine W_cond (by rfl) (fun hb => ?_) (fun hb => ?_)
          ·have hm := cond_t hb hm
           refine W_seq ?_
           refine W_region ?_
           refine RL_pure (by exact wn0 rfl) (by rfl) (by rfl) (x_assign (v := .bool false) (by rfl)) ?_
           refine RL_nil ?_
           refine W_ret ?_
           obtain rfl := Option.some.inj hm
           exact ⟨[.bool false], (.tmp (by rfl) rfl), rfl, H.none_⟩
          ·have hm := cond_f hb hm
           refine W_skip ?_
           refine W_seq ?_
           refine W_region ?_
           refine RL_pure (by exact wn0 rfl) (by rfl) (by rfl) (x_fieldAddr fo54_2 (by rfl)) ?_
           refine RL_pure (by exact wn0 rfl) (by rfl) (by rfl) (x_load (j := 2) (v := .slice A53 el41.Low.length cp54) sc23 (by rfl) (H.cells (i := 3) (by rfl)) (by rfl)) ?_
           refine RL_pure (by exact wn0 rfl) (by rfl) (by rfl) (x_len sl23 (by rfl)) ?_
           obtain ⟨l78, h80, hl79, hb81, hm⟩ := mks_some hm
           refine RL_cons (O_makeSlice (D := kInt) (x0 := 0) (by exact wn0 rfl) (by rfl) (by rfl) (by rfl) sl23 sz3 by3 ze3 (by rfl) (by intro w ok; exact rfl) h80 hl79 hb81 H (by rfl) (fun w75 b76 cs77 (H : Sep ok w w75 [.blk b17 25 [.int .i64 a0.W, .int .i64 a0.H, .slice A1 a0.Color.length cp2, .slice A5 a0.Depth.length cp6, .slice A9 a0.Item.length cp10, .slice A13 a0.Tri.length cp14], .blk b19 30 [.int .i64 a1.X0, .int .i64 a1.Y0, .int .i64 a1.X1, .int .i64 a1.Y1], .blk b33 28 [.slice A30 v28.1.Levels.length cp31], .blk b58 54 [.int .i64 el41.W, .int .i64 el41.H, .slice A53 el41.Low.length cp54], .row (.slice (some ⟨b76, 0, none⟩) l78.length l78.length) 3 kInt.sz l78.length cs77] [RE.rd k_Ar4_Int A1 cp2 a0.Color, RE.rd kInt A5 cp6 a0.Depth, RE.rd kInt A9 cp10 a0.Item, RE.rd kInt A13 cp14 a0.Tri, RE.rd k_Level A30 cp31 v28.1.Levels, RE.cells g46 (o47 + (y9_1).toNat * 3) [.int .i64 el41.W, .int .i64 el41.H, .slice A53 el41.Low.length cp54], RE.rd kInt A53 cp54 el41.Low, RE.chunks kInt cs77 l78]) => ?_))
           refine RL_pure (by exact wn0 rfl) (by rfl) (by rfl) (x_assign (v := .slice (some ⟨b76, 0, none⟩) l78.length l78.length) (by rfl)) ?_
           refine RL_nil ?_
           refine W_seq ?_
           refine W_seq ?_
           refine W_region ?_
           refine RL_pure (by exact wn0 rfl) (by rfl) (by rfl) (x_assign (v := .int .i64 0) (by rfl)) ?_
           refine RL_nil ?_
           refine W_block ?_
           refine W_loop (fun k2 r' w' => ∃ (l_row82_2 : (List Int)), ∃ (y12_2 : Int), ∃ (A_row82_2 : Option Addr), ∃ (c_row82_2 : Nat), ∃ (cs_row82_2 : List Value), m5_l2 K a0 y8_1 y9_1 rec1 el41 k2 l_row82_2 y12_2 = some res ∧ Agr [(2, .pointer (some ⟨b17, 0, none⟩)), (3, .pointer (some ⟨b19, 0, none⟩)), (5, .bool v22), (6, .pointer (some ⟨b33, 0, none⟩)), (8, .int .i64 y8_1), (9, .int .i64 y9_1), (10, .pointer (some ⟨b58, 0, none⟩)), (11, .slice A_row82_2 l_row82_2.length c_row82_2), (12, .int .i64 y12_2)] r' ∧ Sep ok w w' [.blk b17 25 [.int .i64 a0.W, .int .i64 a0.H, .slice A1 a0.Color.length cp2, .slice A5 a0.Depth.length cp6, .slice A9 a0.Item.length cp10, .slice A13 a0.Tri.length cp14], .blk b19 30 [.int .i64 a1.X0, .int .i64 a1.Y0, .int .i64 a1.X1, .int .i64 a1.Y1], .blk b33 28 [.slice A30 v28.1.Levels.length cp31], .blk b58 54 [.int .i64 el41.W, .int .i64 el41.H, .slice A53 el41.Low.length cp54], .row (.slice A_row82_2 l_row82_2.length c_row82_2) 3 kInt.sz l_row82_2.length cs_row82_2] [RE.rd k_Ar4_Int A1 cp2 a0.Color, RE.rd kInt A5 cp6 a0.Depth, RE.rd kInt A9 cp10 a0.Item, RE.rd kInt A13 cp14 a0.Tri, RE.rd k_Level A30 cp31 v28.1.Levels, RE.cells g46 (o47 + (y9_1).toNat * 3) [.int .i64 el41.W, .int .i64 el41.H, .slice A53 el41.Low.length cp54], RE.rd kInt A53 cp54 el41.Low, RE.chunks kInt cs_row82_2 l_row82_2]) K ?_ ?_
           ·exact ⟨l78, 0, (some ⟨b76, 0, none⟩), l78.length, cs77, hm, ⟨rfl, rfl, rfl, rfl, rfl, rfl, rfl, rfl, rfl, trivial⟩, H⟩
           ·rintro k2 r' w' ⟨l_row82_2, y12_2, A_row82_2, c_row82_2, cs_row82_2, hm, hA, H⟩
            obtain ⟨r84, rfl⟩ := regen _ hA; clear hA
            obtain ⟨w85, rfl⟩ : ∃ W : World, W = w' := ⟨_, rfl⟩
            cases k2 with
            | zero => exact (none_some hm).elim
            | succ k2 =>
             have hm : m5_l2b K a0 y8_1 y9_1 rec1 el41 (m5_l2 K a0 y8_1 y9_1 rec1 el41 k2) l_row82_2 y12_2 = some res := hm
             unfold m5_l2b at hm
             obtain ⟨rec2, hrec2⟩ : ∃ f, m5_l2 K a0 y8_1 y9_1 rec1 el41 k2 = f := ⟨_, rfl⟩
             rw [hrec2] at hm
             refine W_seq ?_
             refine W_seq ?_
             refine W_region ?_
             refine RL_pure (by exact wn0 rfl) (by rfl) (by rfl) (x_move (v := .int .i64 y12_2) (by rfl)) ?_
             refine RL_pure (by exact wn0 rfl) (by rfl) (by rfl) (x_fieldAddr fo25_3 (by rfl)) ?_
             refine RL_pure (by exact wn0 rfl) (by rfl) (by rfl) (x_load (j := 3) (v := .slice A5 a0.Depth.length cp6) sc23 (by rfl) (H.cells (i := 0) (by rfl)) (by rfl)) ?_
             refine RL_pure (by exact wn0 rfl) (by rfl) (by rfl) (x_len sl23 (by rfl)) ?_
             refine RL_pure (by exact wn0 rfl) (by rfl) (by rfl) (x_lss (by rfl) (by rfl)) ?_
             refine RL_nil ?_
             refine W_cond (by rfl) (fun hb => ?_) (fun hb => ?_)
             ·have hm := cond_t hb hm
              refine W_skip ?_
              refine W_seq ?_
              refine W_block ?_
              refine W_seq ?_
              refine W_draw [.free 0, .free 1, .take 2, .free 3, .free 4, .free 5, .free 6, .take 7, .free 8, .free 9, .free 10, .take 11, .free 12, .free 13, .free 14, .free 15, .free 16] (fun wS => Sep ok w wS [.blk b17 25 [.int .i64 a0.W, .int .i64 a0.H, .slice A1 a0.Color.length cp2, .slice A5 a0.Depth.length cp6, .slice A9 a0.Item.length cp10, .slice A13 a0.Tri.length cp14], .blk b19 30 [.int .i64 a1.X0, .int .i64 a1.Y0, .int .i64 a1.X1, .int .i64 a1.Y1], .blk b33 28 [.slice A30 v28.1.Levels.length cp31], .blk b58 54 [.int .i64 el41.W, .int .i64 el41.H, .slice A53 el41.Low.length cp54], .row (.slice A_row82_2 l_row82_2.length c_row82_2) 3 kInt.sz l_row82_2.length cs_row82_2] [RE.rd k_Ar4_Int A1 cp2 a0.Color, RE.rd kInt A5 cp6 a0.Depth, RE.rd kInt A9 cp10 a0.Item, RE.rd kInt A13 cp14 a0.Tri, RE.rd k_Level A30 cp31 v28.1.Levels, RE.cells g46 (o47 + (y9_1).toNat * 3) [.int .i64 el41.W, .int .i64 el41.H, .slice A53 el41.Low.length cp54], RE.rd kInt A53 cp54 el41.Low, RE.chunks kInt cs_row82_2 l_row82_2]) [] [0, 1, 3, 4, 5, 6, 8, 9, 10, 12, 13, 14, 15, 16] mixed0 (by kernel_rfl) (by kernel_rfl) (by kernel_rfl) (by rfl) (by exact H.drew) ?_
              obtain ⟨w86, hW⟩ : ∃ W : World, W = { w85 with drawn := w85.drawn + 1 } := ⟨_, rfl⟩
              rw [← hW]
              have H : Sep ok w w86 [.blk b17 25 [.int .i64 a0.W, .int .i64 a0.H, .slice A1 a0.Color.length cp2, .slice A5 a0.Depth.length cp6, .slice A9 a0.Item.length cp10, .slice A13 a0.Tri.length cp14], .blk b19 30 [.int .i64 a1.X0, .int .i64 a1.Y0, .int .i64 a1.X1, .int .i64 a1.Y1], .blk b33 28 [.slice A30 v28.1.Levels.length cp31], .blk b58 54 [.int .i64 el41.W, .int .i64 el41.H, .slice A53 el41.Low.length cp54], .row (.slice A_row82_2 l_row82_2.length c_row82_2) 3 kInt.sz l_row82_2.length cs_row82_2] [RE.rd k_Ar4_Int A1 cp2 a0.Color, RE.rd kInt A5 cp6 a0.Depth, RE.rd kInt A9 cp10 a0.Item, RE.rd kInt A13 cp14 a0.Tri, RE.rd k_Level A30 cp31 v28.1.Levels, RE.cells g46 (o47 + (y9_1).toNat * 3) [.int .i64 el41.W, .int .i64 el41.H, .slice A53 el41.Low.length cp54], RE.rd kInt A53 cp54 el41.Low, RE.chunks kInt cs_row82_2 l_row82_2] := by rw [hW]; exact H.drew
              clear hW
              refine PR_free (by rfl) (by rfl) (by rfl) (by exact wn0 rfl) (fun wS => (x_move (v := .int .i64 y12_2) (by rfl))) ?_
              refine PR_free (by rfl) (by rfl) (by rfl) (by exact wn0 rfl) (fun wS => (x_fieldAddr fo25_0 (by rfl))) ?_
              refine PR_take (by rfl) (by rfl) (by rfl) (by exact wn0 rfl) (fun wS (H : Sep ok w wS [.blk b17 25 [.int .i64 a0.W, .int .i64 a0.H, .slice A1 a0.Color.length cp2, .slice A5 a0.Depth.length cp6, .slice A9 a0.Item.length cp10, .slice A13 a0.Tri.length cp14], .blk b19 30 [.int .i64 a1.X0, .int .i64 a1.Y0, .int .i64 a1.X1, .int .i64 a1.Y1], .blk b33 28 [.slice A30 v28.1.Levels.length cp31], .blk b58 54 [.int .i64 el41.W, .int .i64 el41.H, .slice A53 el41.Low.length cp54], .row (.slice A_row82_2 l_row82_2.length c_row82_2) 3 kInt.sz l_row82_2.length cs_row82_2] [RE.rd k_Ar4_Int A1 cp2 a0.Color, RE.rd kInt A5 cp6 a0.Depth, RE.rd kInt A9 cp10 a0.Item, RE.rd kInt A13 cp14 a0.Tri, RE.rd k_Level A30 cp31 v28.1.Levels, RE.cells g46 (o47 + (y9_1).toNat * 3) [.int .i64 el41.W, .int .i64 el41.H, .slice A53 el41.Low.length cp54], RE.rd kInt A53 cp54 el41.Low, RE.chunks kInt cs_row82_2 l_row82_2]) => (x_load (j := 0) (v := .int .i64 a0.W) sc3 (by rfl) (H.cells (i := 0) (by rfl)) (by rfl))) ?_
              obtain ⟨nx87, hm⟩ := nz_some hm
              obtain ⟨x87, ex87, qx87, ux87, hm⟩ := ck_some hm
              refine PR_free (by rfl) (by rfl) (by rfl) (by exact wn0 rfl) (fun wS => (x_quo (by rfl) (by rfl) nx87 ux87)) ?_
              refine PR_free (by rfl) (by rfl) (by rfl) (by exact wn0 rfl) (fun wS => (x_move (v := .int .i64 y8_1) (by rfl))) ?_
              obtain ⟨nx88, hm⟩ := nz_some hm
              obtain ⟨x88, ex88, qx88, ux88, hm⟩ := ck_some hm
              refine PR_free (by rfl) (by rfl) (by rfl) (by exact wn0 rfl) (fun wS => (x_quo (by rfl) (by rfl) nx88 ux88)) ?_
              refine PR_free (by rfl) (by rfl) (by rfl) (by exact wn0 rfl) (fun wS => (x_fieldAddr fo54_0 (by rfl))) ?_
              refine PR_take (by rfl) (by rfl) (by rfl) (by exact wn0 rfl) (fun wS (H : Sep ok w wS [.blk b17 25 [.int .i64 a0.W, .int .i64 a0.H, .slice A1 a0.Color.length cp2, .slice A5 a0.Depth.length cp6, .slice A9 a0.Item.length cp10, .slice A13 a0.Tri.length cp14], .blk b19 30 [.int .i64 a1.X0, .int .i64 a1.Y0, .int .i64 a1.X1, .int .i64 a1.Y1], .blk b33 28 [.slice A30 v28.1.Levels.length cp31], .blk b58 54 [.int .i64 el41.W, .int .i64 el41.H, .slice A53 el41.Low.length cp54], .row (.slice A_row82_2 l_row82_2.length c_row82_2) 3 kInt.sz l_row82_2.length cs_row82_2] [RE.rd k_Ar4_Int A1 cp2 a0.Color, RE.rd kInt A5 cp6 a0.Depth, RE.rd kInt A9 cp10 a0.Item, RE.rd kInt A13 cp14 a0.Tri, RE.rd k_Level A30 cp31 v28.1.Levels, RE.cells g46 (o47 + (y9_1).toNat * 3) [.int .i64 el41.W, .int .i64 el41.H, .slice A53 el41.Low.length cp54], RE.rd kInt A53 cp54 el41.Low, RE.chunks kInt cs_row82_2 l_row82_2]) => (x_load (j := 0) (v := .int .i64 el41.W) sc3 (by rfl) (H.cells (i := 3) (by rfl)) (by rfl))) ?_
              obtain ⟨x89, ex89, qx89, ux89, hm⟩ := ck_some hm
              refine PR_free (by rfl) (by rfl) (by rfl) (by exact wn0 rfl) (fun wS => (x_mul (by rfl) (by rfl) ux89)) ?_
              refine PR_free (by rfl) (by rfl) (by rfl) (by exact wn0 rfl) (fun wS => (x_move (v := .int .i64 y12_2) (by rfl))) ?_
              refine PR_free (by rfl) (by rfl) (by rfl) (by exact wn0 rfl) (fun wS => (x_fieldAddr fo25_0 (by rfl))) ?_
              refine PR_take (by rfl) (by rfl) (by rfl) (by exact wn0 rfl) (fun wS (H : Sep ok w wS [.blk b17 25 [.int .i64 a0.W, .int .i64 a0.H, .slice A1 a0.Color.length cp2, .slice A5 a0.Depth.length cp6, .slice A9 a0.Item.length cp10, .slice A13 a0.Tri.length cp14], .blk b19 30 [.int .i64 a1.X0, .int .i64 a1.Y0, .int .i64 a1.X1, .int .i64 a1.Y1], .blk b33 28 [.slice A30 v28.1.Levels.length cp31], .blk b58 54 [.int .i64 el41.W, .int .i64 el41.H, .slice A53 el41.Low.length cp54], .row (.slice A_row82_2 l_row82_2.length c_row82_2) 3 kInt.sz l_row82_2.length cs_row82_2] [RE.rd k_Ar4_Int A1 cp2 a0.Color, RE.rd kInt A5 cp6 a0.Depth, RE.rd kInt A9 cp10 a0.Item, RE.rd kInt A13 cp14 a0.Tri, RE.rd k_Level A30 cp31 v28.1.Levels, RE.cells g46 (o47 + (y9_1).toNat * 3) [.int .i64 el41.W, .int .i64 el41.H, .slice A53 el41.Low.length cp54], RE.rd kInt A53 cp54 el41.Low, RE.chunks kInt cs_row82_2 l_row82_2]) => (x_load (j := 0) (v := .int .i64 a0.W) sc3 (by rfl) (H.cells (i := 0) (by rfl)) (by rfl))) ?_
              obtain ⟨nx90, hm⟩ := nz_some hm
              refine PR_free (by rfl) (by rfl) (by rfl) (by exact wn0 rfl) (fun wS => (x_rem (by rfl) (by rfl) nx90)) ?_
              refine PR_free (by rfl) (by rfl) (by rfl) (by exact wn0 rfl) (fun wS => (x_move (v := .int .i64 y8_1) (by rfl))) ?_
              obtain ⟨nx91, hm⟩ := nz_some hm
              obtain ⟨x91, ex91, qx91, ux91, hm⟩ := ck_some hm
              refine PR_free (by rfl) (by rfl) (by rfl) (by exact wn0 rfl) (fun wS => (x_quo (by rfl) (by rfl) nx91 ux91)) ?_
              obtain ⟨x92, ex92, qx92, ux92, hm⟩ := ck_some hm
              refine PR_free (by rfl) (by rfl) (by rfl) (by exact wn0 rfl) (fun wS => (x_add (by rfl) (by rfl) ux92)) ?_
              refine PR_free (by rfl) (by rfl) (by rfl) (by exact wn0 rfl) (fun wS => (x_assign (v := .int .i64 x92) (by rfl))) ?_
              refine PR_nil ?_
              refine W_seq ?_
              refine W_seq ?_
              refine W_region ?_
              refine RL_pure (by exact wn0 rfl) (by rfl) (by rfl) (x_move (v := .int .i64 x92) (by rfl)) ?_
              refine RL_pure (by exact wn0 rfl) (by rfl) (by rfl) (x_move (v := .slice A_row82_2 l_row82_2.length c_row82_2) (by rfl)) ?_
              refine RL_pure (by exact wn0 rfl) (by rfl) (by rfl) (x_len sl23 (by rfl)) ?_
              refine RL_pure (by exact wn0 rfl) (by rfl) (by rfl) (x_geq (by rfl) (by rfl)) ?_
              refine RL_nil ?_
              refine W_cond (by rfl) (fun hb => ?_) (fun hb => ?_)
              ·have hm := cond_t hb hm
               refine W_seq ?_
               refine W_region ?_
               refine RL_pure (by exact wn0 rfl) (by rfl) (by rfl) (x_assign (v := .bool false) (by rfl)) ?_
               refine RL_nil ?_
               refine W_ret ?_
               obtain rfl := Option.some.inj hm
               exact ⟨[.bool false], (.tmp (by rfl) rfl), rfl, H.none_⟩
              ·have hm := cond_f hb hm
               refine W_skip ?_
               refine W_draw [.free 0, .free 1, .free 2, .free 3, .free 4, .take 5, .free 6, .take 7, .free 8, .free 9, .take 10, .free 11, .free 12, .free 13, .tail 14] (fun wS => Sep ok w wS [.blk b17 25 [.int .i64 a0.W, .int .i64 a0.H, .slice A1 a0.Color.length cp2, .slice A5 a0.Depth.length cp6, .slice A9 a0.Item.length cp10, .slice A13 a0.Tri.length cp14], .blk b19 30 [.int .i64 a1.X0, .int .i64 a1.Y0, .int .i64 a1.X1, .int .i64 a1.Y1], .blk b33 28 [.slice A30 v28.1.Levels.length cp31], .blk b58 54 [.int .i64 el41.W, .int .i64 el41.H, .slice A53 el41.Low.length cp54], .row (.slice A_row82_2 l_row82_2.length c_row82_2) 3 kInt.sz l_row82_2.length cs_row82_2] [RE.rd k_Ar4_Int A1 cp2 a0.Color, RE.rd kInt A5 cp6 a0.Depth, RE.rd kInt A9 cp10 a0.Item, RE.rd kInt A13 cp14 a0.Tri, RE.rd k_Level A30 cp31 v28.1.Levels, RE.cells g46 (o47 + (y9_1).toNat * 3) [.int .i64 el41.W, .int .i64 el41.H, .slice A53 el41.Low.length cp54], RE.rd kInt A53 cp54 el41.Low, RE.chunks kInt cs_row82_2 l_row82_2]) [14] [0, 1, 2, 3, 4, 6, 8, 9, 11, 12, 13] mixed0 (by kernel_rfl) (by kernel_rfl) (by kernel_rfl) (by rfl) (by exact H.drew) ?_
               obtain ⟨w93, hW⟩ : ∃ W : World, W = { w86 with drawn := w86.drawn + 1 } := ⟨_, rfl⟩
               rw [← hW]
               have H : Sep ok w w93 [.blk b17 25 [.int .i64 a0.W, .int .i64 a0.H, .slice A1 a0.Color.length cp2, .slice A5 a0.Depth.length cp6, .slice A9 a0.Item.length cp10, .slice A13 a0.Tri.length cp14], .blk b19 30 [.int .i64 a1.X0, .int .i64 a1.Y0, .int .i64 a1.X1, .int .i64 a1.Y1], .blk b33 28 [.slice A30 v28.1.Levels.length cp31], .blk b58 54 [.int .i64 el41.W, .int .i64 el41.H, .slice A53 el41.Low.length cp54], .row (.slice A_row82_2 l_row82_2.length c_row82_2) 3 kInt.sz l_row82_2.length cs_row82_2] [RE.rd k_Ar4_Int A1 cp2 a0.Color, RE.rd kInt A5 cp6 a0.Depth, RE.rd kInt A9 cp10 a0.Item, RE.rd kInt A13 cp14 a0.Tri, RE.rd k_Level A30 cp31 v28.1.Levels, RE.cells g46 (o47 + (y9_1).toNat * 3) [.int .i64 el41.W, .int .i64 el41.H, .slice A53 el41.Low.length cp54], RE.rd kInt A53 cp54 el41.Low, RE.chunks kInt cs_row82_2 l_row82_2] := by rw [hW]; exact H.drew
               clear hW
               refine PR_free (by rfl) (by rfl) (by rfl) (by exact wn0 rfl) (fun wS => (x_move (v := .slice A_row82_2 l_row82_2.length c_row82_2) (by rfl))) ?_
               refine PR_free (by rfl) (by rfl) (by rfl) (by exact wn0 rfl) (fun wS => (x_move (v := .int .i64 x92) (by rfl))) ?_
               refine PR_free (by rfl) (by rfl) (by rfl) (by exact wn0 rfl) (fun wS => (x_move (v := .slice A_row82_2 l_row82_2.length c_row82_2) (by rfl))) ?_
               refine PR_free (by rfl) (by rfl) (by rfl) (by exact wn0 rfl) (fun wS => (x_move (v := .int .i64 x92) (by rfl))) ?_
               obtain ⟨el94, h95, h96, he97, hm⟩ := idx_some hm
               obtain ⟨g99, _, hA98, _, _⟩ := H.rowIdx (i := 4) (j := 7) (by rfl) (by rfl) he97
               refine PR_free (by rfl) (by rfl) (by rfl) (by exact wn0 rfl) (fun wS => (x_indexAddr sl23 sz3 (by rfl) (by rfl) hA98 h95 h96)) ?_
               refine PR_take (by rfl) (by rfl) (by rfl) (by exact wn0 rfl) (fun wS (H : Sep ok w wS [.blk b17 25 [.int .i64 a0.W, .int .i64 a0.H, .slice A1 a0.Color.length cp2, .slice A5 a0.Depth.length cp6, .slice A9 a0.Item.length cp10, .slice A13 a0.Tri.length cp14], .blk b19 30 [.int .i64 a1.X0, .int .i64 a1.Y0, .int .i64 a1.X1, .int .i64 a1.Y1], .blk b33 28 [.slice A30 v28.1.Levels.length cp31], .blk b58 54 [.int .i64 el41.W, .int .i64 el41.H, .slice A53 el41.Low.length cp54], .row (.slice A_row82_2 l_row82_2.length c_row82_2) 3 kInt.sz l_row82_2.length cs_row82_2] [RE.rd k_Ar4_Int A1 cp2 a0.Color, RE.rd kInt A5 cp6 a0.Depth, RE.rd kInt A9 cp10 a0.Item, RE.rd kInt A13 cp14 a0.Tri, RE.rd k_Level A30 cp31 v28.1.Levels, RE.cells g46 (o47 + (y9_1).toNat * 3) [.int .i64 el41.W, .int .i64 el41.H, .slice A53 el41.Low.length cp54], RE.rd kInt A53 cp54 el41.Low, RE.chunks kInt cs_row82_2 l_row82_2]) => (x_load (j := 0) (v := .int .i64 el94) sc3 (by rfl) (H.rowFlatAt (n := 1) (i := 4) (j := 7) (by rfl) (by rfl) hA98 he97) (by rfl))) ?_
               refine PR_free (by rfl) (by rfl) (by rfl) (by exact wn0 rfl) (fun wS => (x_fieldAddr fo25_3 (by rfl))) ?_
               refine PR_take (by rfl) (by rfl) (by rfl) (by exact wn0 rfl) (fun wS (H : Sep ok w wS [.blk b17 25 [.int .i64 a0.W, .int .i64 a0.H, .slice A1 a0.Color.length cp2, .slice A5 a0.Depth.length cp6, .slice A9 a0.Item.length cp10, .slice A13 a0.Tri.length cp14], .blk b19 30 [.int .i64 a1.X0, .int .i64 a1.Y0, .int .i64 a1.X1, .int .i64 a1.Y1], .blk b33 28 [.slice A30 v28.1.Levels.length cp31], .blk b58 54 [.int .i64 el41.W, .int .i64 el41.H, .slice A53 el41.Low.length cp54], .row (.slice A_row82_2 l_row82_2.length c_row82_2) 3 kInt.sz l_row82_2.length cs_row82_2] [RE.rd k_Ar4_Int A1 cp2 a0.Color, RE.rd kInt A5 cp6 a0.Depth, RE.rd kInt A9 cp10 a0.Item, RE.rd kInt A13 cp14 a0.Tri, RE.rd k_Level A30 cp31 v28.1.Levels, RE.cells g46 (o47 + (y9_1).toNat * 3) [.int .i64 el41.W, .int .i64 el41.H, .slice A53 el41.Low.length cp54], RE.rd kInt A53 cp54 el41.Low, RE.chunks kInt cs_row82_2 l_row82_2]) => (x_load (j := 3) (v := .slice A5 a0.Depth.length cp6) sc23 (by rfl) (H.cells (i := 0) (by rfl)) (by rfl))) ?_
               refine PR_free (by rfl) (by rfl) (by rfl) (by exact wn0 rfl) (fun wS => (x_move (v := .int .i64 y12_2) (by rfl))) ?_
               obtain ⟨el101, h102, h103, he104, hm⟩ := idx_some hm
               obtain ⟨g106, o107, hA105⟩ := (H.rd (i := 1) (by rfl)).addr he104
               refine PR_free (by rfl) (by rfl) (by rfl) (by exact wn0 rfl) (fun wS => (x_indexAddr sl23 sz3 (by rfl) (by rfl) hA105 h102 h103)) ?_
               refine PR_take (by rfl) (by rfl) (by rfl) (by exact wn0 rfl) (fun wS (H : Sep ok w wS [.blk b17 25 [.int .i64 a0.W, .int .i64 a0.H, .slice A1 a0.Color.length cp2, .slice A5 a0.Depth.length cp6, .slice A9 a0.Item.length cp10, .slice A13 a0.Tri.length cp14], .blk b19 30 [.int .i64 a1.X0, .int .i64 a1.Y0, .int .i64 a1.X1, .int .i64 a1.Y1], .blk b33 28 [.slice A30 v28.1.Levels.length cp31], .blk b58 54 [.int .i64 el41.W, .int .i64 el41.H, .slice A53 el41.Low.length cp54], .row (.slice A_row82_2 l_row82_2.length c_row82_2) 3 kInt.sz l_row82_2.length cs_row82_2] [RE.rd k_Ar4_Int A1 cp2 a0.Color, RE.rd kInt A5 cp6 a0.Depth, RE.rd kInt A9 cp10 a0.Item, RE.rd kInt A13 cp14 a0.Tri, RE.rd k_Level A30 cp31 v28.1.Levels, RE.cells g46 (o47 + (y9_1).toNat * 3) [.int .i64 el41.W, .int .i64 el41.H, .slice A53 el41.Low.length cp54], RE.rd kInt A53 cp54 el41.Low, RE.chunks kInt cs_row82_2 l_row82_2]) => (x_load (j := 0) (v := .int .i64 el101) sc3 (by rfl) (Rd.flatAt (n := 1) (H.rd (i := 1) (by rfl)) hA105 he104) (by rfl))) ?_
               obtain ⟨x108, ex108, qx108, ux108, hm⟩ := ck_some hm
               refine PR_free (by rfl) (by rfl) (by rfl) (by exact wn0 rfl) (fun wS => (x_sub (by rfl) (by rfl) ux108)) ?_
               refine PR_free (by rfl) (by rfl) (by rfl) (by exact wn0 rfl) (fun wS => (x_min2 (by rfl) (by rfl))) ?_
               obtain ⟨el109, h110, h111, he112, hm⟩ := idx_some hm
               obtain ⟨g114, _, hA113, _, _⟩ := H.rowIdx (i := 4) (j := 7) (by rfl) (by rfl) he112
               refine PR_free (by rfl) (by rfl) (by rfl) (by exact wn0 rfl) (fun wS => (x_indexAddr sl23 sz3 (by rfl) (by rfl) hA113 h110 h111)) ?_
               obtain ⟨l118, hl119, hm⟩ := lete_some hm
               refine PR_tail (by rfl) (O_storeRow (D := kInt) (i := 4) (j := 7) (off := 0) (m := x92) (a := el109) (b := (mn el94 x108)) (vs := [.int .i64 (mn el94 x108)]) (by exact wn0 rfl) H (by rfl) (by rfl) hA113 (by rfl) (by rfl) he112 (by rfl) sz3 (by rfl) (by rfl) (by intro ce hce; obtain rfl := hce; rfl) hl119 (fun w116 cs117 (H : Sep ok w w116 [.blk b17 25 [.int .i64 a0.W, .int .i64 a0.H, .slice A1 a0.Color.length cp2, .slice A5 a0.Depth.length cp6, .slice A9 a0.Item.length cp10, .slice A13 a0.Tri.length cp14], .blk b19 30 [.int .i64 a1.X0, .int .i64 a1.Y0, .int .i64 a1.X1, .int .i64 a1.Y1], .blk b33 28 [.slice A30 v28.1.Levels.length cp31], .blk b58 54 [.int .i64 el41.W, .int .i64 el41.H, .slice A53 el41.Low.length cp54], .row (.slice A_row82_2 l118.length c_row82_2) 3 kInt.sz l118.length cs117] [RE.rd k_Ar4_Int A1 cp2 a0.Color, RE.rd kInt A5 cp6 a0.Depth, RE.rd kInt A9 cp10 a0.Item, RE.rd kInt A13 cp14 a0.Tri, RE.rd k_Level A30 cp31 v28.1.Levels, RE.cells g46 (o47 + (y9_1).toNat * 3) [.int .i64 el41.W, .int .i64 el41.H, .slice A53 el41.Low.length cp54], RE.rd kInt A53 cp54 el41.Low, RE.chunks kInt cs117 l118]) => ?_))
               refine PR_nil ?_
               have hn120 : l_row82_2.length = l118.length := by rw [← hl119]; exact (List.length_set ..).symm
               have H : Sep ok w w116 [.blk b17 25 [.int .i64 a0.W, .int .i64 a0.H, .slice A1 a0.Color.length cp2, .slice A5 a0.Depth.length cp6, .slice A9 a0.Item.length cp10, .slice A13 a0.Tri.length cp14], .blk b19 30 [.int .i64 a1.X0, .int .i64 a1.Y0, .int .i64 a1.X1, .int .i64 a1.Y1], .blk b33 28 [.slice A30 v28.1.Levels.length cp31], .blk b58 54 [.int .i64 el41.W, .int .i64 el41.H, .slice A53 el41.Low.length cp54], .row (.slice A_row82_2 l118.length c_row82_2) 3 kInt.sz l118.length cs117] [RE.rd k_Ar4_Int A1 cp2 a0.Color, RE.rd kInt A5 cp6 a0.Depth, RE.rd kInt A9 cp10 a0.Item, RE.rd kInt A13 cp14 a0.Tri, RE.rd k_Level A30 cp31 v28.1.Levels, RE.cells g46 (o47 + (y9_1).toNat * 3) [.int .i64 el41.W, .int .i64 el41.H, .slice A53 el41.Low.length cp54], RE.rd kInt A53 cp54 el41.Low, RE.chunks kInt cs117 l118] := by (try rw [hn120] at H); exact H
               refine W_regen (l := [(2, .pointer (some ⟨b17, 0, none⟩)), (3, .pointer (some ⟨b19, 0, none⟩)), (5, .bool v22), (6, .pointer (some ⟨b33, 0, none⟩)), (8, .int .i64 y8_1), (9, .int .i64 y9_1), (10, .pointer (some ⟨b58, 0, none⟩)), (11, .slice A_row82_2 l118.length c_row82_2), (12, .int .i64 y12_2)]) ⟨rfl, rfl, rfl, rfl, rfl, rfl, rfl, (by (try rw [← hn120]); rfl), rfl, trivial⟩ fun r121 => ?_
               refine W_region ?_
               refine RL_pure (by exact wn0 rfl) (by rfl) (by rfl) (x_move (v := .int .i64 y12_2) (by rfl)) ?_
               obtain ⟨x122, ex122, qx122, ux122, hm⟩ := ck_some hm
               refine RL_pure (by exact wn0 rfl) (by rfl) (by rfl) (x_add (by rfl) (by rfl) ux122) ?_
               refine RL_pure (by exact wn0 rfl) (by rfl) (by rfl) (x_assign (v := .int .i64 x122) (by rfl)) ?_
               refine RL_nil ?_
               subst hrec2
               exact ⟨k2, Nat.lt_succ_self k2, l118, x122, A_row82_2, c_row82_2, cs117, hm, ⟨rfl, rfl, rfl, rfl, rfl, rfl, rfl, rfl, rfl, trivial⟩, H⟩
             ·have hm := cond_f hb hm
              refine W_exit ?_
              refine W_seq ?_
              refine W_seq ?_
              refine W_region ?_
              refine RL_pure (by exact wn0 rfl) (by rfl) (by rfl) (x_assign (v := .int .i64 0) (by rfl)) ?_
              refine RL_nil ?_
              refine W_block ?_
              refine W_loop (fun k3 r' w' => ∃ (y14_3 : Int), ∃ (A_row82_2 : Option Addr), ∃ (c_row82_2 : Nat), ∃ (cs_row82_2 : List Value), m5_l3 K y8_1 y9_1 rec1 el41 l_row82_2 k3 y14_3 = some res ∧ Agr [(2, .pointer (some ⟨b17, 0, none⟩)), (3, .pointer (some ⟨b19, 0, none⟩)), (5, .bool v22), (6, .pointer (some ⟨b33, 0, none⟩)), (8, .int .i64 y8_1), (9, .int .i64 y9_1), (10, .pointer (some ⟨b58, 0, none⟩)), (11, .slice A_row82_2 l_row82_2.length c_row82_2), (14, .int .i64 y14_3)] r' ∧ Sep ok w w' [.blk b17 25 [.int .i64 a0.W, .int .i64 a0.H, .slice A1 a0.Color.length cp2, .slice A5 a0.Depth.length cp6, .slice A9 a0.Item.length cp10, .slice A13 a0.Tri.length cp14], .blk b19 30 [.int .i64 a1.X0, .int .i64 a1.Y0, .int .i64 a1.X1, .int .i64 a1.Y1], .blk b33 28 [.slice A30 v28.1.Levels.length cp31], .blk b58 54 [.int .i64 el41.W, .int .i64 el41.H, .slice A53 el41.Low.length cp54], .row (.slice A_row82_2 l_row82_2.length c_row82_2) 3 kInt.sz l_row82_2.length cs_row82_2] [RE.rd k_Ar4_Int A1 cp2 a0.Color, RE.rd kInt A5 cp6 a0.Depth, RE.rd kInt A9 cp10 a0.Item, RE.rd kInt A13 cp14 a0.Tri, RE.rd k_Level A30 cp31 v28.1.Levels, RE.cells g46 (o47 + (y9_1).toNat * 3) [.int .i64 el41.W, .int .i64 el41.H, .slice A53 el41.Low.length cp54], RE.rd kInt A53 cp54 el41.Low, RE.chunks kInt cs_row82_2 l_row82_2]) K ?_ ?_
              ·exact ⟨0, A_row82_2, c_row82_2, cs_row82_2, hm, ⟨rfl, rfl, rfl, rfl, rfl, rfl, rfl, rfl, rfl, trivial⟩, H⟩
              ·rintro k3 r' w' ⟨y14_3, A_row82_2, c_row82_2, cs_row82_2, hm, hA, H⟩
               obtain ⟨r123, rfl⟩ := regen _ hA; clear hA
               obtain ⟨w124, rfl⟩ : ∃ W : World, W = w' := ⟨_, rfl⟩
               cases k3 with
               | zero => exact (none_some hm).elim
               | succ k3 =>
                have hm : m5_l3b K y8_1 y9_1 rec1 el41 l_row82_2 (m5_l3 K y8_1 y9_1 rec1 el41 l_row82_2 k3) y14_3 = some res := hm
                unfold m5_l3b at hm
                obtain ⟨rec3, hrec3⟩ : ∃ f, m5_l3 K y8_1 y9_1 rec1 el41 l_row82_2 k3 = f := ⟨_, rfl⟩
                rw [hrec3] at hm
                refine W_seq ?_
                refine W_seq ?_
                refine W_region ?_
                refine RL_pure (by exact wn0 rfl) (by rfl) (by rfl) (x_move (v := .int .i64 y14_3) (by rfl)) ?_
                refine RL_pure (by exact wn0 rfl) (by rfl) (by rfl) (x_move (v := .slice A_row82_2 l_row82_2.length c_row82_2) (by rfl)) ?_
                refine RL_pure (by exact wn0 rfl) (by rfl) (by rfl) (x_len sl23 (by rfl)) ?_
                refine RL_pure (by exact wn0 rfl) (by rfl) (by rfl) (x_lss (by rfl) (by rfl)) ?_
                refine RL_nil ?_
                refine W_cond (by rfl) (fun hb => ?_) (fun hb => ?_)
                ·have hm := cond_t hb hm
                 refine W_skip ?_
                 refine W_seq ?_
                 refine W_block ?_
                 refine W_seq ?_
                 refine W_draw [.free 0, .free 1, .free 2, .take 3, .free 4, .free 5, .take 6, .free 7, .free 8, .take 9, .free 10] (fun wS => Sep ok w wS [.blk b17 25 [.int .i64 a0.W, .int .i64 a0.H, .slice A1 a0.Color.length cp2, .slice A5 a0.Depth.length cp6, .slice A9 a0.Item.length cp10, .slice A13 a0.Tri.length cp14], .blk b19 30 [.int .i64 a1.X0, .int .i64 a1.Y0, .int .i64 a1.X1, .int .i64 a1.Y1], .blk b33 28 [.slice A30 v28.1.Levels.length cp31], .blk b58 54 [.int .i64 el41.W, .int .i64 el41.H, .slice A53 el41.Low.length cp54], .row (.slice A_row82_2 l_row82_2.length c_row82_2) 3 kInt.sz l_row82_2.length cs_row82_2] [RE.rd k_Ar4_Int A1 cp2 a0.Color, RE.rd kInt A5 cp6 a0.Depth, RE.rd kInt A9 cp10 a0.Item, RE.rd kInt A13 cp14 a0.Tri, RE.rd k_Level A30 cp31 v28.1.Levels, RE.cells g46 (o47 + (y9_1).toNat * 3) [.int .i64 el41.W, .int .i64 el41.H, .slice A53 el41.Low.length cp54], RE.rd kInt A53 cp54 el41.Low, RE.chunks kInt cs_row82_2 l_row82_2]) [] [0, 1, 2, 4, 5, 7, 8, 10] mixed0 (by kernel_rfl) (by kernel_rfl) (by kernel_rfl) (by rfl) (by exact H.drew) ?_
                 obtain ⟨w125, hW⟩ : ∃ W : World, W = { w124 with drawn := w124.drawn + 1 } := ⟨_, rfl⟩
                 rw [← hW]
                 have H : Sep ok w w125 [.blk b17 25 [.int .i64 a0.W, .int .i64 a0.H, .slice A1 a0.Color.length cp2, .slice A5 a0.Depth.length cp6, .slice A9 a0.Item.length cp10, .slice A13 a0.Tri.length cp14], .blk b19 30 [.int .i64 a1.X0, .int .i64 a1.Y0, .int .i64 a1.X1, .int .i64 a1.Y1], .blk b33 28 [.slice A30 v28.1.Levels.length cp31], .blk b58 54 [.int .i64 el41.W, .int .i64 el41.H, .slice A53 el41.Low.length cp54], .row (.slice A_row82_2 l_row82_2.length c_row82_2) 3 kInt.sz l_row82_2.length cs_row82_2] [RE.rd k_Ar4_Int A1 cp2 a0.Color, RE.rd kInt A5 cp6 a0.Depth, RE.rd kInt A9 cp10 a0.Item, RE.rd kInt A13 cp14 a0.Tri, RE.rd k_Level A30 cp31 v28.1.Levels, RE.cells g46 (o47 + (y9_1).toNat * 3) [.int .i64 el41.W, .int .i64 el41.H, .slice A53 el41.Low.length cp54], RE.rd kInt A53 cp54 el41.Low, RE.chunks kInt cs_row82_2 l_row82_2] := by rw [hW]; exact H.drew
                 clear hW
                 refine PR_free (by rfl) (by rfl) (by rfl) (by exact wn0 rfl) (fun wS => (x_move (v := .slice A_row82_2 l_row82_2.length c_row82_2) (by rfl))) ?_
                 refine PR_free (by rfl) (by rfl) (by rfl) (by exact wn0 rfl) (fun wS => (x_move (v := .int .i64 y14_3) (by rfl))) ?_
                 obtain ⟨el126, h127, h128, he129, hm⟩ := idx_some hm
                 obtain ⟨g131, _, hA130, _, _⟩ := H.rowIdx (i := 4) (j := 7) (by rfl) (by rfl) he129
                 refine PR_free (by rfl) (by rfl) (by rfl) (by exact wn0 rfl) (fun wS => (x_indexAddr sl23 sz3 (by rfl) (by rfl) hA130 h127 h128)) ?_
                 refine PR_take (by rfl) (by rfl) (by rfl) (by exact wn0 rfl) (fun wS (H : Sep ok w wS [.blk b17 25 [.int .i64 a0.W, .int .i64 a0.H, .slice A1 a0.Color.length cp2, .slice A5 a0.Depth.length cp6, .slice A9 a0.Item.length cp10, .slice A13 a0.Tri.length cp14], .blk b19 30 [.int .i64 a1.X0, .int .i64 a1.Y0, .int .i64 a1.X1, .int .i64 a1.Y1], .blk b33 28 [.slice A30 v28.1.Levels.length cp31], .blk b58 54 [.int .i64 el41.W, .int .i64 el41.H, .slice A53 el41.Low.length cp54], .row (.slice A_row82_2 l_row82_2.length c_row82_2) 3 kInt.sz l_row82_2.length cs_row82_2] [RE.rd k_Ar4_Int A1 cp2 a0.Color, RE.rd kInt A5 cp6 a0.Depth, RE.rd kInt A9 cp10 a0.Item, RE.rd kInt A13 cp14 a0.Tri, RE.rd k_Level A30 cp31 v28.1.Levels, RE.cells g46 (o47 + (y9_1).toNat * 3) [.int .i64 el41.W, .int .i64 el41.H, .slice A53 el41.Low.length cp54], RE.rd kInt A53 cp54 el41.Low, RE.chunks kInt cs_row82_2 l_row82_2]) => (x_load (j := 0) (v := .int .i64 el126) sc3 (by rfl) (H.rowFlatAt (n := 1) (i := 4) (j := 7) (by rfl) (by rfl) hA130 he129) (by rfl))) ?_
                 obtain ⟨x133, ex133, qx133, ux133, hm⟩ := ck_some hm
                 refine PR_free (by rfl) (by rfl) (by rfl) (by exact wn0 rfl) (fun wS => (x_add (by rfl) (by rfl) ux133)) ?_
                 refine PR_free (by rfl) (by rfl) (by rfl) (by exact wn0 rfl) (fun wS => (x_fieldAddr fo54_2 (by rfl))) ?_
                 refine PR_take (by rfl) (by rfl) (by rfl) (by exact wn0 rfl) (fun wS (H : Sep ok w wS [.blk b17 25 [.int .i64 a0.W, .int .i64 a0.H, .slice A1 a0.Color.length cp2, .slice A5 a0.Depth.length cp6, .slice A9 a0.Item.length cp10, .slice A13 a0.Tri.length cp14], .blk b19 30 [.int .i64 a1.X0, .int .i64 a1.Y0, .int .i64 a1.X1, .int .i64 a1.Y1], .blk b33 28 [.slice A30 v28.1.Levels.length cp31], .blk b58 54 [.int .i64 el41.W, .int .i64 el41.H, .slice A53 el41.Low.length cp54], .row (.slice A_row82_2 l_row82_2.length c_row82_2) 3 kInt.sz l_row82_2.length cs_row82_2] [RE.rd k_Ar4_Int A1 cp2 a0.Color, RE.rd kInt A5 cp6 a0.Depth, RE.rd kInt A9 cp10 a0.Item, RE.rd kInt A13 cp14 a0.Tri, RE.rd k_Level A30 cp31 v28.1.Levels, RE.cells g46 (o47 + (y9_1).toNat * 3) [.int .i64 el41.W, .int .i64 el41.H, .slice A53 el41.Low.length cp54], RE.rd kInt A53 cp54 el41.Low, RE.chunks kInt cs_row82_2 l_row82_2]) => (x_load (j := 2) (v := .slice A53 el41.Low.length cp54) sc23 (by rfl) (H.cells (i := 3) (by rfl)) (by rfl))) ?_
                 refine PR_free (by rfl) (by rfl) (by rfl) (by exact wn0 rfl) (fun wS => (x_move (v := .int .i64 y14_3) (by rfl))) ?_
                 obtain ⟨el134, h135, h136, he137, hm⟩ := idx_some hm
                 obtain ⟨g139, o140, hA138⟩ := (H.rd (i := 6) (by rfl)).addr he137
                 refine PR_free (by rfl) (by rfl) (by rfl) (by exact wn0 rfl) (fun wS => (x_indexAddr sl23 sz3 (by rfl) (by rfl) hA138 h135 h136)) ?_
                 refine PR_take (by rfl) (by rfl) (by rfl) (by exact wn0 rfl) (fun wS (H : Sep ok w wS [.blk b17 25 [.int .i64 a0.W, .int .i64 a0.H, .slice A1 a0.Color.length cp2, .slice A5 a0.Depth.length cp6, .slice A9 a0.Item.length cp10, .slice A13 a0.Tri.length cp14], .blk b19 30 [.int .i64 a1.X0, .int .i64 a1.Y0, .int .i64 a1.X1, .int .i64 a1.Y1], .blk b33 28 [.slice A30 v28.1.Levels.length cp31], .blk b58 54 [.int .i64 el41.W, .int .i64 el41.H, .slice A53 el41.Low.length cp54], .row (.slice A_row82_2 l_row82_2.length c_row82_2) 3 kInt.sz l_row82_2.length cs_row82_2] [RE.rd k_Ar4_Int A1 cp2 a0.Color, RE.rd kInt A5 cp6 a0.Depth, RE.rd kInt A9 cp10 a0.Item, RE.rd kInt A13 cp14 a0.Tri, RE.rd k_Level A30 cp31 v28.1.Levels, RE.cells g46 (o47 + (y9_1).toNat * 3) [.int .i64 el41.W, .int .i64 el41.H, .slice A53 el41.Low.length cp54], RE.rd kInt A53 cp54 el41.Low, RE.chunks kInt cs_row82_2 l_row82_2]) => (x_load (j := 0) (v := .int .i64 el134) sc3 (by rfl) (Rd.flatAt (n := 1) (H.rd (i := 6) (by rfl)) hA138 he137) (by rfl))) ?_
                 refine PR_free (by rfl) (by rfl) (by rfl) (by exact wn0 rfl) (fun wS => (x_neq (by rfl) (by rfl))) ?_
                 refine PR_nil ?_
                 refine W_cond (by rfl) (fun hb => ?_) (fun hb => ?_)
                 ·have hm := cond_t hb hm
                  refine W_seq ?_
                  refine W_region ?_
                  refine RL_pure (by exact wn0 rfl) (by rfl) (by rfl) (x_assign (v := .bool false) (by rfl)) ?_
                  refine RL_nil ?_
                  refine W_ret ?_
                  obtain rfl := Option.some.inj hm
                  exact ⟨[.bool false], (.tmp (by rfl) rfl), rfl, H.none_⟩
                 ·have hm := cond_f hb hm
                  refine W_skip ?_
                  refine W_region ?_
                  refine RL_pure (by exact wn0 rfl) (by rfl) (by rfl) (x_move (v := .int .i64 y14_3) (by rfl)) ?_
                  obtain ⟨x141, ex141, qx141, ux141, hm⟩ := ck_some hm
                  refine RL_pure (by exact wn0 rfl) (by rfl) (by rfl) (x_add (by rfl) (by rfl) ux141) ?_
                  refine RL_pure (by exact wn0 rfl) (by rfl) (by rfl) (x_assign (v := .int .i64 x141) (by rfl)) ?_
                  refine RL_nil ?_
                  subst hrec3
                  exact ⟨k3, Nat.lt_succ_self k3, x141, A_row82_2, c_row82_2, cs_row82_2, hm, ⟨rfl, rfl, rfl, rfl, rfl, rfl, rfl, rfl, rfl, trivial⟩, H⟩
                ·have hm := cond_f hb hm
                 refine W_exit ?_
                 refine W_region ?_
                 refine RL_pure (by exact wn0 rfl) (by rfl) (by rfl) (x_move (v := .int .i64 y8_1) (by rfl)) ?_
                 obtain ⟨x142, ex142, qx142, ux142, hm⟩ := ck_some hm
                 refine RL_pure (by exact wn0 rfl) (by rfl) (by rfl) (x_mul (by rfl) (by rfl) ux142) ?_
                 refine RL_pure (by exact wn0 rfl) (by rfl) (by rfl) (x_assign (v := .int .i64 x142) (by rfl)) ?_
                 refine RL_nil ?_
                 refine W_region ?_
                 refine RL_pure (by exact wn0 rfl) (by rfl) (by rfl) (x_move (v := .int .i64 y9_1) (by rfl)) ?_
                 obtain ⟨x143, ex143, qx143, ux143, hm⟩ := ck_some hm
                 refine RL_pure (by exact wn0 rfl) (by rfl) (by rfl) (x_add (by rfl) (by rfl) ux143) ?_
                 refine RL_pure (by exact wn0 rfl) (by rfl) (by rfl) (x_assign (v := .int .i64 x143) (by rfl)) ?_
                 refine RL_nil ?_
                 subst hrec1
                 exact ⟨k1, Nat.lt_succ_self k1, x142, x143, hm, ⟨rfl, rfl, rfl, rfl, rfl, rfl, trivial⟩, ((H).takeL 3).pick [0, 1, 2, 3, 4]⟩
      ·have hm := cond_f hb hm
       refine W_exit ?_
       refine W_seq ?_
       refine W_region ?_
       refine RL_pure (by exact wn0 rfl) (by rfl) (by rfl) (x_loadA (j := 0) (vs := [.slice A30 v28.1.Levels.length cp31]) ag28 (by rfl) (H.cells (i := 2) (by rfl)) (by rfl) (by rfl)) ?_
       refine RL_pure (by exact wn0 rfl) (by rfl) (by rfl) (x_loadA (j := 0) (vs := [.int .i64 a1.X0, .int .i64 a1.Y0, .int .i64 a1.X1, .int .i64 a1.Y1]) ag30 (by rfl) (H.cells (i := 1) (by rfl)) (by rfl) (by rfl)) ?_
       obtain ⟨v145, hv144, hm⟩ := bind_some hm
       refine RL_cons (O_call (by exact wn0 rfl) (by rfl) (by rfl) (x_callL (by rfl) (args := [.agg #[.slice A30 v28.1.Levels.length cp31], .agg #[.int .i64 a1.X0, .int .i64 a1.Y0, .int .i64 a1.X1, .int .i64 a1.Y1]]) (by rfl) (cf17 _ _)) (c17 (fun _ => True) K w40 v28.1 A30 cp31 a1 (H.rd (i := 4) (by rfl)).any v145 hv144) ?_)
       rintro e w146 ⟨rfl, H2⟩
       have H : Sep ok w w146 [.blk b17 25 [.int .i64 a0.W, .int .i64 a0.H, .slice A1 a0.Color.length cp2, .slice A5 a0.Depth.length cp6, .slice A9 a0.Item.length cp10, .slice A13 a0.Tri.length cp14], .blk b19 30 [.int .i64 a1.X0, .int .i64 a1.Y0, .int .i64 a1.X1, .int .i64 a1.Y1], .blk b33 28 [.slice A30 v28.1.Levels.length cp31]] [RE.rd k_Ar4_Int A1 cp2 a0.Color, RE.rd kInt A5 cp6 a0.Depth, RE.rd kInt A9 cp10 a0.Item, RE.rd kInt A13 cp14 a0.Tri, RE.rd k_Level A30 cp31 v28.1.Levels] := H.below H2.base
       clear H2
       refine ⟨_, rfl, ?_⟩
       show RL _ _ _ _ _ _ _
       refine RL_pure (by exact wn0 rfl) (by rfl) (by rfl) (x_move (v := tup [.int .i64 v145.1, .int .i64 v145.2]) (by rfl)) ?_
       refine RL_pure (by exact wn0 rfl) (by rfl) (by rfl) (x_extract (v := .int .i64 v145.1) (by rfl) (by rfl)) ?_
       refine RL_pure (by exact wn0 rfl) (by rfl) (by rfl) (x_extract (v := .int .i64 v145.2) (by rfl) (by rfl)) ?_
       refine RL_pure (by exact wn0 rfl) (by rfl) (by rfl) (x_assign (v := .int .i64 v145.1) (by rfl)) ?_
       refine RL_pure (by exact wn0 rfl) (by rfl) (by rfl) (x_assign (v := .int .i64 v145.2) (by rfl)) ?_
       refine RL_nil ?_
       refine W_seq ?_
       refine W_seq ?_
       refine W_region ?_
       refine RL_pure (by exact wn0 rfl) (by rfl) (by rfl) (x_move (v := .int .i64 v145.2) (by rfl)) ?_
       refine RL_pure (by exact wn0 rfl) (by rfl) (by rfl) (x_neq (by rfl) (by rfl)) ?_
       refine RL_nil ?_
       refine W_cond (by rfl) (fun hb => ?_) (fun hb => ?_)
       ·have hm := cond_t hb hm
        refine W_seq ?_
        refine W_region ?_
        refine RL_pure (by exact wn0 rfl) (by rfl) (by rfl) (x_move (v := .bool v22) (by rfl)) ?_
        refine RL_pure (by exact wn0 rfl) (by rfl) (by rfl) (x_move (v := .bool v22) (by rfl)) ?_
        obtain ⟨b147, hmS, hm⟩ := bind_some hm
        refine RL_cut 3 (fun r' w' => Agr [(163, .bool b147)] r' ∧ Sep ok w w' [.blk b17 25 [.int .i64 a0.W, .int .i64 a0.H, .slice A1 a0.Color.length cp2, .slice A5 a0.Depth.length cp6, .slice A9 a0.Item.length cp10, .slice A13 a0.Tri.length cp14], .blk b19 30 [.int .i64 a1.X0, .int .i64 a1.Y0, .int .i64 a1.X1, .int .i64 a1.Y1], .blk b33 28 [.slice A30 v28.1.Levels.length cp31]] [RE.rd k_Ar4_Int A1 cp2 a0.Color, RE.rd kInt A5 cp6 a0.Depth, RE.rd kInt A9 cp10 a0.Item, RE.rd kInt A13 cp14 a0.Tri, RE.rd k_Level A30 cp31 v28.1.Levels]) ?_ ?_
        ·cases hbS : v22
         ·have hm := cond_f hbS hmS
          refine RL_cons (OpR_off (by exact wn2 rfl rfl rfl rfl) (by rfl) (by rfl) ?_)
          refine RL_cons (OpR_off (by exact wn2 rfl rfl rfl rfl) (by rfl) (by rfl) ?_)
          refine RL_pure (by exact wn0 rfl) (by rfl) (by rfl) (x_pick_f (v := .bool false) (by rfl) (by rfl)) ?_
          refine RL_nil ?_
          exact ⟨⟨congrArg Value.bool (Option.some.inj hm), trivial⟩, H⟩
         ·have hm := cond_t hbS hmS
          refine RL_pure (by exact wn1 rfl rfl rfl rfl) (by rfl) (by rfl) (x_move (v := .int .i64 v145.1) (by rfl)) ?_
          refine RL_pure (by exact wn1 rfl rfl rfl rfl) (by rfl) (by rfl) (x_eql (by rfl) (by rfl)) ?_
          refine RL_pure (by exact wn0 rfl) (by rfl) (by rfl) (x_pick_t (v := .bool (v145.1 == 0)) (by rfl) (by rfl)) ?_
          refine RL_nil ?_
          exact ⟨⟨congrArg Value.bool (Option.some.inj hm), trivial⟩, H⟩
        ·rintro r' w' ⟨hA, H⟩
         obtain ⟨r148, rfl⟩ := regen _ hA; clear hA
         obtain ⟨w149, rfl⟩ : ∃ W : World, W = w' := ⟨_, rfl⟩
         show RL _ _ _ _ _ _ _
         refine RL_pure (by exact wn0 rfl) (by rfl) (by rfl) (x_assign (v := .bool b147) (by rfl)) ?_
         refine RL_nil ?_
         refine W_ret ?_
         obtain rfl := Option.some.inj hm
         exact ⟨[.bool b147], (.tmp (by rfl) rfl), rfl, H.none_⟩
       ·have hm := cond_f hb hm
        refine W_skip ?_
        refine W_seq ?_
        refine W_region ?_
        refine RL_pure (by exact wn0 rfl) (by rfl) (by rfl) (x_assign (v := .int .i64 1048576) (by rfl)) ?_
        refine RL_nil ?_
        refine W_seq ?_
        refine W_seq ?_
        refine W_region ?_
        refine RL_pure (by exact wn0 rfl) (by rfl) (by rfl) (x_assign (v := .int .i64 0) (by rfl)) ?_
        refine RL_nil ?_
        refine W_block ?_
        refine W_loop (fun k4 r' w' => ∃ (y17_4 : Int), ∃ (y18_4 : Int), m5_l4 K a0 a1 v22 v145 k4 y17_4 y18_4 = some res ∧ Agr [(2, .pointer (some ⟨b17, 0, none⟩)), (3, .pointer (some ⟨b19, 0, none⟩)), (5, .bool v22), (15, .int .i64 v145.1), (17, .int .i64 y17_4), (18, .int .i64 y18_4)] r' ∧ Sep ok w w' [.blk b17 25 [.int .i64 a0.W, .int .i64 a0.H, .slice A1 a0.Color.length cp2, .slice A5 a0.Depth.length cp6, .slice A9 a0.Item.length cp10, .slice A13 a0.Tri.length cp14], .blk b19 30 [.int .i64 a1.X0, .int .i64 a1.Y0, .int .i64 a1.X1, .int .i64 a1.Y1], .blk b33 28 [.slice A30 v28.1.Levels.length cp31]] [RE.rd k_Ar4_Int A1 cp2 a0.Color, RE.rd kInt A5 cp6 a0.Depth, RE.rd kInt A9 cp10 a0.Item, RE.rd kInt A13 cp14 a0.Tri, RE.rd k_Level A30 cp31 v28.1.Levels]) K ?_ ?_
        ·exact ⟨1048576, 0, hm, ⟨rfl, rfl, rfl, rfl, rfl, rfl, trivial⟩, H⟩
        ·rintro k4 r' w' ⟨y17_4, y18_4, hm, hA, H⟩
         obtain ⟨r150, rfl⟩ := regen _ hA; clear hA
         obtain ⟨w151, rfl⟩ : ∃ W : World, W = w' := ⟨_, rfl⟩
         cases k4 with
         | zero => exact (none_some hm).elim
         | succ k4 =>
          have hm : m5_l4b K a0 a1 v22 v145 (m5_l4 K a0 a1 v22 v145 k4) y17_4 y18_4 = some res := hm
          unfold m5_l4b at hm
          obtain ⟨rec4, hrec4⟩ : ∃ f, m5_l4 K a0 a1 v22 v145 k4 = f := ⟨_, rfl⟩
          rw [hrec4] at hm
          refine W_seq ?_
          refine W_seq ?_
          refine W_region ?_
          refine RL_pure (by exact wn0 rfl) (by rfl) (by rfl) (x_move (v := .int .i64 y18_4) (by rfl)) ?_
          refine RL_pure (by exact wn0 rfl) (by rfl) (by rfl) (x_fieldAddr fo25_3 (by rfl)) ?_
          refine RL_pure (by exact wn0 rfl) (by rfl) (by rfl) (x_load (j := 3) (v := .slice A5 a0.Depth.length cp6) sc23 (by rfl) (H.cells (i := 0) (by rfl)) (by rfl)) ?_
          refine RL_pure (by exact wn0 rfl) (by rfl) (by rfl) (x_len sl23 (by rfl)) ?_
          refine RL_pure (by exact wn0 rfl) (by rfl) (by rfl) (x_lss (by rfl) (by rfl)) ?_
          refine RL_nil ?_
          refine W_cond (by rfl) (fun hb => ?_) (fun hb => ?_)
          ·have hm := cond_t hb hm
           refine W_skip ?_
           refine W_seq ?_
           refine W_block ?_
           refine W_seq ?_
           refine W_draw [.free 0, .free 1, .take 2, .free 3, .free 4, .take 5, .free 6, .free 7, .free 8, .free 9, .take 10, .free 11, .free 12, .take 13, .free 14, .free 15, .free 16, .free 17, .free 18, .take 19, .free 20, .free 21, .take 22, .free 23, .free 24, .free 25, .free 26, .free 27, .take 28, .free 29, .free 30, .take 31, .free 32, .free 33] (fun wS => Sep ok w wS [.blk b17 25 [.int .i64 a0.W, .int .i64 a0.H, .slice A1 a0.Color.length cp2, .slice A5 a0.Depth.length cp6, .slice A9 a0.Item.length cp10, .slice A13 a0.Tri.length cp14], .blk b19 30 [.int .i64 a1.X0, .int .i64 a1.Y0, .int .i64 a1.X1, .int .i64 a1.Y1], .blk b33 28 [.slice A30 v28.1.Levels.length cp31]] [RE.rd k_Ar4_Int A1 cp2 a0.Color, RE.rd kInt A5 cp6 a0.Depth, RE.rd kInt A9 cp10 a0.Item, RE.rd kInt A13 cp14 a0.Tri, RE.rd k_Level A30 cp31 v28.1.Levels]) [] [0, 1, 3, 4, 6, 7, 8, 9, 11, 12, 14, 15, 16, 17, 18, 20, 21, 23, 24, 25, 26, 27, 29, 30, 32, 33] mixed0 (by kernel_rfl) (by kernel_rfl) (by kernel_rfl) (by rfl) (by exact H.drew) ?_
           obtain ⟨w152, hW⟩ : ∃ W : World, W = { w151 with drawn := w151.drawn + 1 } := ⟨_, rfl⟩
           rw [← hW]
           have H : Sep ok w w152 [.blk b17 25 [.int .i64 a0.W, .int .i64 a0.H, .slice A1 a0.Color.length cp2, .slice A5 a0.Depth.length cp6, .slice A9 a0.Item.length cp10, .slice A13 a0.Tri.length cp14], .blk b19 30 [.int .i64 a1.X0, .int .i64 a1.Y0, .int .i64 a1.X1, .int .i64 a1.Y1], .blk b33 28 [.slice A30 v28.1.Levels.length cp31]] [RE.rd k_Ar4_Int A1 cp2 a0.Color, RE.rd kInt A5 cp6 a0.Depth, RE.rd kInt A9 cp10 a0.Item, RE.rd kInt A13 cp14 a0.Tri, RE.rd k_Level A30 cp31 v28.1.Levels] := by rw [hW]; exact H.drew
           clear hW
           refine PR_free (by rfl) (by rfl) (by rfl) (by exact wn0 rfl) (fun wS => (x_move (v := .int .i64 y18_4) (by rfl))) ?_
           refine PR_free (by rfl) (by rfl) (by rfl) (by exact wn0 rfl) (fun wS => (x_fieldAddr fo25_0 (by rfl))) ?_
           refine PR_take (by rfl) (by rfl) (by rfl) (by exact wn0 rfl) (fun wS (H : Sep ok w wS [.blk b17 25 [.int .i64 a0.W, .int .i64 a0.H, .slice A1 a0.Color.length cp2, .slice A5 a0.Depth.length cp6, .slice A9 a0.Item.length cp10, .slice A13 a0.Tri.length cp14], .blk b19 30 [.int .i64 a1.X0, .int .i64 a1.Y0, .int .i64 a1.X1, .int .i64 a1.Y1], .blk b33 28 [.slice A30 v28.1.Levels.length cp31]] [RE.rd k_Ar4_Int A1 cp2 a0.Color, RE.rd kInt A5 cp6 a0.Depth, RE.rd kInt A9 cp10 a0.Item, RE.rd kInt A13 cp14 a0.Tri, RE.rd k_Level A30 cp31 v28.1.Levels]) => (x_load (j := 0) (v := .int .i64 a0.W) sc3 (by rfl) (H.cells (i := 0) (by rfl)) (by rfl))) ?_
           obtain ⟨nx153, hm⟩ := nz_some hm
           refine PR_free (by rfl) (by rfl) (by rfl) (by exact wn0 rfl) (fun wS => (x_rem (by rfl) (by rfl) nx153)) ?_
           refine PR_free (by rfl) (by rfl) (by rfl) (by exact wn0 rfl) (fun wS => (x_fieldAddr fo30_0 (by rfl))) ?_
           refine PR_take (by rfl) (by rfl) (by rfl) (by exact wn0 rfl) (fun wS (H : Sep ok w wS [.blk b17 25 [.int .i64 a0.W, .int .i64 a0.H, .slice A1 a0.Color.length cp2, .slice A5 a0.Depth.length cp6, .slice A9 a0.Item.length cp10, .slice A13 a0.Tri.length cp14], .blk b19 30 [.int .i64 a1.X0, .int .i64 a1.Y0, .int .i64 a1.X1, .int .i64 a1.Y1], .blk b33 28 [.slice A30 v28.1.Levels.length cp31]] [RE.rd k_Ar4_Int A1 cp2 a0.Color, RE.rd kInt A5 cp6 a0.Depth, RE.rd kInt A9 cp10 a0.Item, RE.rd kInt A13 cp14 a0.Tri, RE.rd k_Level A30 cp31 v28.1.Levels]) => (x_load (j := 0) (v := .int .i64 a1.X0) sc3 (by rfl) (H.cells (i := 1) (by rfl)) (by rfl))) ?_
           refine PR_free (by rfl) (by rfl) (by rfl) (by exact wn0 rfl) (fun wS => (x_geq (by rfl) (by rfl))) ?_
           refine PR_free (by rfl) (by rfl) (by rfl) (by exact wn0 rfl) (fun wS => (x_move (v := .bool (decide (a1.X0 ≤ (Int.tmod y18_4 a0.W)))) (by rfl))) ?_
           obtain ⟨b154, hmS, hm⟩ := bind_some hm
           refine PR_cut 8 (fun r' w' => Agr [(186, .bool b154), (2, .pointer (some ⟨b17, 0, none⟩)), (3, .pointer (some ⟨b19, 0, none⟩)), (5, .bool v22), (15, .int .i64 v145.1), (17, .int .i64 y17_4), (18, .int .i64 y18_4)] r' ∧ Sep ok w w' [.blk b17 25 [.int .i64 a0.W, .int .i64 a0.H, .slice A1 a0.Color.length cp2, .slice A5 a0.Depth.length cp6, .slice A9 a0.Item.length cp10, .slice A13 a0.Tri.length cp14], .blk b19 30 [.int .i64 a1.X0, .int .i64 a1.Y0, .int .i64 a1.X1, .int .i64 a1.Y1], .blk b33 28 [.slice A30 v28.1.Levels.length cp31]] [RE.rd k_Ar4_Int A1 cp2 a0.Color, RE.rd kInt A5 cp6 a0.Depth, RE.rd kInt A9 cp10 a0.Item, RE.rd kInt A13 cp14 a0.Tri, RE.rd k_Level A30 cp31 v28.1.Levels]) ?_ ?_
           ·cases hbS : (decide (a1.X0 ≤ (Int.tmod y18_4 a0.W)))
            ·have hm := cond_f hbS hmS
             refine PR_offF (by rfl) (by rfl) (by rfl) (by exact wn2 rfl rfl rfl rfl) ?_
             refine PR_offF (by rfl) (by rfl) (by rfl) (by exact wn2 rfl rfl rfl rfl) ?_
             refine PR_off (by rfl) (by rfl) (by rfl) (by exact wn2 rfl rfl rfl rfl) ?_
             refine PR_offF (by rfl) (by rfl) (by rfl) (by exact wn2 rfl rfl rfl rfl) ?_
             refine PR_offF (by rfl) (by rfl) (by rfl) (by exact wn2 rfl rfl rfl rfl) ?_
             refine PR_off (by rfl) (by rfl) (by rfl) (by exact wn2 rfl rfl rfl rfl) ?_
             refine PR_offF (by rfl) (by rfl) (by rfl) (by exact wn2 rfl rfl rfl rfl) ?_
             refine PR_free (by rfl) (by rfl) (by rfl) (by exact wn0 rfl) (fun wS => (x_pick_f (v := .bool false) (by rfl) (by rfl))) ?_
             refine PR_nil ?_
             exact ⟨⟨congrArg Value.bool (Option.some.inj hm), rfl, rfl, rfl, rfl, rfl, rfl, trivial⟩, H⟩
            ·have hm := cond_t hbS hmS
             refine PR_free (by rfl) (by rfl) (by rfl) (by exact wn1 rfl rfl rfl rfl) (fun wS => (x_move (v := .int .i64 y18_4) (by rfl))) ?_
             refine PR_free (by rfl) (by rfl) (by rfl) (by exact wn1 rfl rfl rfl rfl) (fun wS => (x_fieldAddr fo25_0 (by rfl))) ?_
             refine PR_take (by rfl) (by rfl) (by rfl) (by exact wn1 rfl rfl rfl rfl) (fun wS (H : Sep ok w wS [.blk b17 25 [.int .i64 a0.W, .int .i64 a0.H, .slice A1 a0.Color.length cp2, .slice A5 a0.Depth.length cp6, .slice A9 a0.Item.length cp10, .slice A13 a0.Tri.length cp14], .blk b19 30 [.int .i64 a1.X0, .int .i64 a1.Y0, .int .i64 a1.X1, .int .i64 a1.Y1], .blk b33 28 [.slice A30 v28.1.Levels.length cp31]] [RE.rd k_Ar4_Int A1 cp2 a0.Color, RE.rd kInt A5 cp6 a0.Depth, RE.rd kInt A9 cp10 a0.Item, RE.rd kInt A13 cp14 a0.Tri, RE.rd k_Level A30 cp31 v28.1.Levels]) => (x_load (j := 0) (v := .int .i64 a0.W) sc3 (by rfl) (H.cells (i := 0) (by rfl)) (by rfl))) ?_
             obtain ⟨nx155, hm⟩ := nz_some hm
             refine PR_free (by rfl) (by rfl) (by rfl) (by exact wn1 rfl rfl rfl rfl) (fun wS => (x_rem (by rfl) (by rfl) nx155)) ?_
             refine PR_free (by rfl) (by rfl) (by rfl) (by exact wn1 rfl rfl rfl rfl) (fun wS => (x_fieldAddr fo30_2 (by rfl))) ?_
             refine PR_take (by rfl) (by rfl) (by rfl) (by exact wn1 rfl rfl rfl rfl) (fun wS (H : Sep ok w wS [.blk b17 25 [.int .i64 a0.W, .int .i64 a0.H, .slice A1 a0.Color.length cp2, .slice A5 a0.Depth.length cp6, .slice A9 a0.Item.length cp10, .slice A13 a0.Tri.length cp14], .blk b19 30 [.int .i64 a1.X0, .int .i64 a1.Y0, .int .i64 a1.X1, .int .i64 a1.Y1], .blk b33 28 [.slice A30 v28.1.Levels.length cp31]] [RE.rd k_Ar4_Int A1 cp2 a0.Color, RE.rd kInt A5 cp6 a0.Depth, RE.rd kInt A9 cp10 a0.Item, RE.rd kInt A13 cp14 a0.Tri, RE.rd k_Level A30 cp31 v28.1.Levels]) => (x_load (j := 2) (v := .int .i64 a1.X1) sc3 (by rfl) (H.cells (i := 1) (by rfl)) (by rfl))) ?_
             refine PR_free (by rfl) (by rfl) (by rfl) (by exact wn1 rfl rfl rfl rfl) (fun wS => (x_leq (by rfl) (by rfl))) ?_
             refine PR_free (by rfl) (by rfl) (by rfl) (by exact wn0 rfl) (fun wS => (x_pick_t (v := .bool (decide ((Int.tmod y18_4 a0.W) ≤ a1.X1))) (by rfl) (by rfl))) ?_
             refine PR_nil ?_
             exact ⟨⟨congrArg Value.bool (Option.some.inj hm), rfl, rfl, rfl, rfl, rfl, rfl, trivial⟩, H⟩
           ·rintro r' w' ⟨hA, H⟩
            obtain ⟨r156, rfl⟩ := regen _ hA; clear hA
            obtain ⟨w157, rfl⟩ : ∃ W : World, W = w' := ⟨_, rfl⟩
            show PR _ _ _ _ _ _ _ _
            refine PR_free (by rfl) (by rfl) (by rfl) (by exact wn0 rfl) (fun wS => (x_move (v := .bool b154) (by rfl))) ?_
            obtain ⟨b158, hmS, hm⟩ := bind_some hm
            refine PR_cut 8 (fun r' w' => Agr [(195, .bool b158), (2, .pointer (some ⟨b17, 0, none⟩)), (3, .pointer (some ⟨b19, 0, none⟩)), (5, .bool v22), (15, .int .i64 v145.1), (17, .int .i64 y17_4), (18, .int .i64 y18_4)] r' ∧ Sep ok w w' [.blk b17 25 [.int .i64 a0.W, .int .i64 a0.H, .slice A1 a0.Color.length cp2, .slice A5 a0.Depth.length cp6, .slice A9 a0.Item.length cp10, .slice A13 a0.Tri.length cp14], .blk b19 30 [.int .i64 a1.X0, .int .i64 a1.Y0, .int .i64 a1.X1, .int .i64 a1.Y1], .blk b33 28 [.slice A30 v28.1.Levels.length cp31]] [RE.rd k_Ar4_Int A1 cp2 a0.Color, RE.rd kInt A5 cp6 a0.Depth, RE.rd kInt A9 cp10 a0.Item, RE.rd kInt A13 cp14 a0.Tri, RE.rd k_Level A30 cp31 v28.1.Levels]) ?_ ?_
            ·cases hbS : b154
             ·have hm := cond_f hbS hmS
              refine PR_offF (by rfl) (by rfl) (by rfl) (by exact wn2 rfl rfl rfl rfl) ?_
              refine PR_offF (by rfl) (by rfl) (by rfl) (by exact wn2 rfl rfl rfl rfl) ?_
              refine PR_off (by rfl) (by rfl) (by rfl) (by exact wn2 rfl rfl rfl rfl) ?_
              refine PR_offF (by rfl) (by rfl) (by rfl) (by exact wn2 rfl rfl rfl rfl) ?_
              refine PR_offF (by rfl) (by rfl) (by rfl) (by exact wn2 rfl rfl rfl rfl) ?_
              refine PR_off (by rfl) (by rfl) (by rfl) (by exact wn2 rfl rfl rfl rfl) ?_
              refine PR_offF (by rfl) (by rfl) (by rfl) (by exact wn2 rfl rfl rfl rfl) ?_
              refine PR_free (by rfl) (by rfl) (by rfl) (by exact wn0 rfl) (fun wS => (x_pick_f (v := .bool false) (by rfl) (by rfl))) ?_
              refine PR_nil ?_
              exact ⟨⟨congrArg Value.bool (Option.some.inj hm), rfl, rfl, rfl, rfl, rfl, rfl, trivial⟩, H⟩
             ·have hm := cond_t hbS hmS
              refine PR_free (by rfl) (by rfl) (by rfl) (by exact wn1 rfl rfl rfl rfl) (fun wS => (x_move (v := .int .i64 y18_4) (by rfl))) ?_
              refine PR_free (by rfl) (by rfl) (by rfl) (by exact wn1 rfl rfl rfl rfl) (fun wS => (x_fieldAddr fo25_0 (by rfl))) ?_
              refine PR_take (by rfl) (by rfl) (by rfl) (by exact wn1 rfl rfl rfl rfl) (fun wS (H : Sep ok w wS [.blk b17 25 [.int .i64 a0.W, .int .i64 a0.H, .slice A1 a0.Color.length cp2, .slice A5 a0.Depth.length cp6, .slice A9 a0.Item.length cp10, .slice A13 a0.Tri.length cp14], .blk b19 30 [.int .i64 a1.X0, .int .i64 a1.Y0, .int .i64 a1.X1, .int .i64 a1.Y1], .blk b33 28 [.slice A30 v28.1.Levels.length cp31]] [RE.rd k_Ar4_Int A1 cp2 a0.Color, RE.rd kInt A5 cp6 a0.Depth, RE.rd kInt A9 cp10 a0.Item, RE.rd kInt A13 cp14 a0.Tri, RE.rd k_Level A30 cp31 v28.1.Levels]) => (x_load (j := 0) (v := .int .i64 a0.W) sc3 (by rfl) (H.cells (i := 0) (by rfl)) (by rfl))) ?_
              obtain ⟨nx159, hm⟩ := nz_some hm
              obtain ⟨x159, ex159, qx159, ux159, hm⟩ := ck_some hm
              refine PR_free (by rfl) (by rfl) (by rfl) (by exact wn1 rfl rfl rfl rfl) (fun wS => (x_quo (by rfl) (by rfl) nx159 ux159)) ?_
              refine PR_free (by rfl) (by rfl) (by rfl) (by exact wn1 rfl rfl rfl rfl) (fun wS => (x_fieldAddr fo30_1 (by rfl))) ?_
              refine PR_take (by rfl) (by rfl) (by rfl) (by exact wn1 rfl rfl rfl rfl) (fun wS (H : Sep ok w wS [.blk b17 25 [.int .i64 a0.W, .int .i64 a0.H, .slice A1 a0.Color.length cp2, .slice A5 a0.Depth.length cp6, .slice A9 a0.Item.length cp10, .slice A13 a0.Tri.length cp14], .blk b19 30 [.int .i64 a1.X0, .int .i64 a1.Y0, .int .i64 a1.X1, .int .i64 a1.Y1], .blk b33 28 [.slice A30 v28.1.Levels.length cp31]] [RE.rd k_Ar4_Int A1 cp2 a0.Color, RE.rd kInt A5 cp6 a0.Depth, RE.rd kInt A9 cp10 a0.Item, RE.rd kInt A13 cp14 a0.Tri, RE.rd k_Level A30 cp31 v28.1.Levels]) => (x_load (j := 1) (v := .int .i64 a1.Y0) sc3 (by rfl) (H.cells (i := 1) (by rfl)) (by rfl))) ?_
              refine PR_free (by rfl) (by rfl) (by rfl) (by exact wn1 rfl rfl rfl rfl) (fun wS => (x_geq (by rfl) (by rfl))) ?_
              refine PR_free (by rfl) (by rfl) (by rfl) (by exact wn0 rfl) (fun wS => (x_pick_t (v := .bool (decide (a1.Y0 ≤ x159))) (by rfl) (by rfl))) ?_
              refine PR_nil ?_
              exact ⟨⟨congrArg Value.bool (Option.some.inj hm), rfl, rfl, rfl, rfl, rfl, rfl, trivial⟩, H⟩
            ·rintro r' w' ⟨hA, H⟩
             obtain ⟨r160, rfl⟩ := regen _ hA; clear hA
             obtain ⟨w161, rfl⟩ : ∃ W : World, W = w' := ⟨_, rfl⟩
             show PR _ _ _ _ _ _ _ _
             refine PR_free (by rfl) (by rfl) (by rfl) (by exact wn0 rfl) (fun wS => (x_move (v := .bool b158) (by rfl))) ?_
             obtain ⟨b162, hmS, hm⟩ := bind_some hm
             refine PR_cut 8 (fun r' w' => Agr [(204, .bool b162), (2, .pointer (some ⟨b17, 0, none⟩)), (3, .pointer (some ⟨b19, 0, none⟩)), (5, .bool v22), (15, .int .i64 v145.1), (17, .int .i64 y17_4), (18, .int .i64 y18_4)] r' ∧ Sep ok w w' [.blk b17 25 [.int .i64 a0.W, .int .i64 a0.H, .slice A1 a0.Color.length cp2, .slice A5 a0.Depth.length cp6, .slice A9 a0.Item.length cp10, .slice A13 a0.Tri.length cp14], .blk b19 30 [.int .i64 a1.X0, .int .i64 a1.Y0, .int .i64 a1.X1, .int .i64 a1.Y1], .blk b33 28 [.slice A30 v28.1.Levels.length cp31]] [RE.rd k_Ar4_Int A1 cp2 a0.Color, RE.rd kInt A5 cp6 a0.Depth, RE.rd kInt A9 cp10 a0.Item, RE.rd kInt A13 cp14 a0.Tri, RE.rd k_Level A30 cp31 v28.1.Levels]) ?_ ?_
             ·cases hbS : b158
              ·have hm := cond_f hbS hmS
               refine PR_offF (by rfl) (by rfl) (by rfl) (by exact wn2 rfl rfl rfl rfl) ?_
               refine PR_offF (by rfl) (by rfl) (by rfl) (by exact wn2 rfl rfl rfl rfl) ?_
               refine PR_off (by rfl) (by rfl) (by rfl) (by exact wn2 rfl rfl rfl rfl) ?_
               refine PR_offF (by rfl) (by rfl) (by rfl) (by exact wn2 rfl rfl rfl rfl) ?_
               refine PR_offF (by rfl) (by rfl) (by rfl) (by exact wn2 rfl rfl rfl rfl) ?_
               refine PR_off (by rfl) (by rfl) (by rfl) (by exact wn2 rfl rfl rfl rfl) ?_
               refine PR_offF (by rfl) (by rfl) (by rfl) (by exact wn2 rfl rfl rfl rfl) ?_
               refine PR_free (by rfl) (by rfl) (by rfl) (by exact wn0 rfl) (fun wS => (x_pick_f (v := .bool false) (by rfl) (by rfl))) ?_
               refine PR_nil ?_
               exact ⟨⟨congrArg Value.bool (Option.some.inj hm), rfl, rfl, rfl, rfl, rfl, rfl, trivial⟩, H⟩
              ·have hm := cond_t hbS hmS
               refine PR_free (by rfl) (by rfl) (by rfl) (by exact wn1 rfl rfl rfl rfl) (fun wS => (x_move (v := .int .i64 y18_4) (by rfl))) ?_
               refine PR_free (by rfl) (by rfl) (by rfl) (by exact wn1 rfl rfl rfl rfl) (fun wS => (x_fieldAddr fo25_0 (by rfl))) ?_
               refine PR_take (by rfl) (by rfl) (by rfl) (by exact wn1 rfl rfl rfl rfl) (fun wS (H : Sep ok w wS [.blk b17 25 [.int .i64 a0.W, .int .i64 a0.H, .slice A1 a0.Color.length cp2, .slice A5 a0.Depth.length cp6, .slice A9 a0.Item.length cp10, .slice A13 a0.Tri.length cp14], .blk b19 30 [.int .i64 a1.X0, .int .i64 a1.Y0, .int .i64 a1.X1, .int .i64 a1.Y1], .blk b33 28 [.slice A30 v28.1.Levels.length cp31]] [RE.rd k_Ar4_Int A1 cp2 a0.Color, RE.rd kInt A5 cp6 a0.Depth, RE.rd kInt A9 cp10 a0.Item, RE.rd kInt A13 cp14 a0.Tri, RE.rd k_Level A30 cp31 v28.1.Levels]) => (x_load (j := 0) (v := .int .i64 a0.W) sc3 (by rfl) (H.cells (i := 0) (by rfl)) (by rfl))) ?_
               obtain ⟨nx163, hm⟩ := nz_some hm
               obtain ⟨x163, ex163, qx163, ux163, hm⟩ := ck_some hm
               refine PR_free (by rfl) (by rfl) (by rfl) (by exact wn1 rfl rfl rfl rfl) (fun wS => (x_quo (by rfl) (by rfl) nx163 ux163)) ?_
               refine PR_free (by rfl) (by rfl) (by rfl) (by exact wn1 rfl rfl rfl rfl) (fun wS => (x_fieldAddr fo30_3 (by rfl))) ?_
               refine PR_take (by rfl) (by rfl) (by rfl) (by exact wn1 rfl rfl rfl rfl) (fun wS (H : Sep ok w wS [.blk b17 25 [.int .i64 a0.W, .int .i64 a0.H, .slice A1 a0.Color.length cp2, .slice A5 a0.Depth.length cp6, .slice A9 a0.Item.length cp10, .slice A13 a0.Tri.length cp14], .blk b19 30 [.int .i64 a1.X0, .int .i64 a1.Y0, .int .i64 a1.X1, .int .i64 a1.Y1], .blk b33 28 [.slice A30 v28.1.Levels.length cp31]] [RE.rd k_Ar4_Int A1 cp2 a0.Color, RE.rd kInt A5 cp6 a0.Depth, RE.rd kInt A9 cp10 a0.Item, RE.rd kInt A13 cp14 a0.Tri, RE.rd k_Level A30 cp31 v28.1.Levels]) => (x_load (j := 3) (v := .int .i64 a1.Y1) sc3 (by rfl) (H.cells (i := 1) (by rfl)) (by rfl))) ?_
               refine PR_free (by rfl) (by rfl) (by rfl) (by exact wn1 rfl rfl rfl rfl) (fun wS => (x_leq (by rfl) (by rfl))) ?_
               refine PR_free (by rfl) (by rfl) (by rfl) (by exact wn0 rfl) (fun wS => (x_pick_t (v := .bool (decide (x163 ≤ a1.Y1))) (by rfl) (by rfl))) ?_
               refine PR_nil ?_
               exact ⟨⟨congrArg Value.bool (Option.some.inj hm), rfl, rfl, rfl, rfl, rfl, rfl, trivial⟩, H⟩
             ·rintro r' w' ⟨hA, H⟩
              obtain ⟨r164, rfl⟩ := regen _ hA; clear hA
              obtain ⟨w165, rfl⟩ : ∃ W : World, W = w' := ⟨_, rfl⟩
              show PR _ _ _ _ _ _ _ _
              refine PR_nil ?_
              refine W_cond (by rfl) (fun hb => ?_) (fun hb => ?_)
              ·have hm := cond_t hb hm
               refine W_region ?_
               refine RL_pure (by exact wn0 rfl) (by rfl) (by rfl) (x_move (v := .int .i64 y17_4) (by rfl)) ?_
               refine RL_pure (by exact wn0 rfl) (by rfl) (by rfl) (x_fieldAddr fo25_3 (by rfl)) ?_
               refine RL_pure (by exact wn0 rfl) (by rfl) (by rfl) (x_load (j := 3) (v := .slice A5 a0.Depth.length cp6) sc23 (by rfl) (H.cells (i := 0) (by rfl)) (by rfl)) ?_
               refine RL_pure (by exact wn0 rfl) (by rfl) (by rfl) (x_move (v := .int .i64 y18_4) (by rfl)) ?_
               obtain ⟨el166, h167, h168, he169, hm⟩ := idx_some hm
               obtain ⟨g171, o172, hA170⟩ := (H.rd (i := 1) (by rfl)).addr he169
               refine RL_pure (by exact wn0 rfl) (by rfl) (by rfl) (x_indexAddr sl23 sz3 (by rfl) (by rfl) hA170 h167 h168) ?_
               refine RL_pure (by exact wn0 rfl) (by rfl) (by rfl) (x_load (j := 0) (v := .int .i64 el166) sc3 (by rfl) (Rd.flatAt (n := 1) (H.rd (i := 1) (by rfl)) hA170 he169) (by rfl)) ?_
               refine RL_pure (by exact wn0 rfl) (by rfl) (by rfl) (x_min2 (by rfl) (by rfl)) ?_
               refine RL_pure (by exact wn0 rfl) (by rfl) (by rfl) (x_assign (v := .int .i64 (mn y17_4 el166)) (by rfl)) ?_
               refine RL_nil ?_
               refine W_region ?_
               refine RL_pure (by exact wn0 rfl) (by rfl) (by rfl) (x_move (v := .int .i64 y18_4) (by rfl)) ?_
               obtain ⟨x173, ex173, qx173, ux173, hm⟩ := ck_some hm
               refine RL_pure (by exact wn0 rfl) (by rfl) (by rfl) (x_add (by rfl) (by rfl) ux173) ?_
               refine RL_pure (by exact wn0 rfl) (by rfl) (by rfl) (x_assign (v := .int .i64 x173) (by rfl)) ?_
               refine RL_nil ?_
               subst hrec4
               exact ⟨k4, Nat.lt_succ_self k4, (mn y17_4 el166), x173, hm, ⟨rfl, rfl, rfl, rfl, rfl, rfl, trivial⟩, H⟩
              ·have hm := cond_f hb hm
               refine W_skip ?_
               refine W_region ?_
               refine RL_pure (by exact wn0 rfl) (by rfl) (by rfl) (x_move (v := .int .i64 y18_4) (by rfl)) ?_
               obtain ⟨x174, ex174, qx174, ux174, hm⟩ := ck_some hm
               refine RL_pure (by exact wn0 rfl) (by rfl) (by rfl) (x_add (by rfl) (by rfl) ux174) ?_
               refine RL_pure (by exact wn0 rfl) (by rfl) (by rfl) (x_assign (v := .int .i64 x174) (by rfl)) ?_
               refine RL_nil ?_
               subst hrec4
               exact ⟨k4, Nat.lt_succ_self k4, y17_4, x174, hm, ⟨rfl, rfl, rfl, rfl, rfl, rfl, trivial⟩, H⟩
          ·have hm := cond_f hb hm
           refine W_exit ?_
           refine W_seq ?_
           refine W_region ?_
           refine RL_pure (by exact wn0 rfl) (by rfl) (by rfl) (x_move (v := .bool v22) (by rfl)) ?_
           refine RL_pure (by exact wn0 rfl) (by rfl) (by rfl) (x_move (v := .bool v22) (by rfl)) ?_
           obtain ⟨b175, hmS, hm⟩ := bind_some hm
           refine RL_cut 4 (fun r' w' => Agr [(217, .bool b175)] r' ∧ Sep ok w w' [.blk b17 25 [.int .i64 a0.W, .int .i64 a0.H, .slice A1 a0.Color.length cp2, .slice A5 a0.Depth.length cp6, .slice A9 a0.Item.length cp10, .slice A13 a0.Tri.length cp14], .blk b19 30 [.int .i64 a1.X0, .int .i64 a1.Y0, .int .i64 a1.X1, .int .i64 a1.Y1], .blk b33 28 [.slice A30 v28.1.Levels.length cp31]] [RE.rd k_Ar4_Int A1 cp2 a0.Color, RE.rd kInt A5 cp6 a0.Depth, RE.rd kInt A9 cp10 a0.Item, RE.rd kInt A13 cp14 a0.Tri, RE.rd k_Level A30 cp31 v28.1.Levels]) ?_ ?_
           ·cases hbS : v22
            ·have hm := cond_f hbS hmS
             refine RL_cons (OpR_off (by exact wn2 rfl rfl rfl rfl) (by rfl) (by rfl) ?_)
             refine RL_cons (OpR_off (by exact wn2 rfl rfl rfl rfl) (by rfl) (by rfl) ?_)
             refine RL_cons (OpR_off (by exact wn2 rfl rfl rfl rfl) (by rfl) (by rfl) ?_)
             refine RL_pure (by exact wn0 rfl) (by rfl) (by rfl) (x_pick_f (v := .bool false) (by rfl) (by rfl)) ?_
             refine RL_nil ?_
             exact ⟨⟨congrArg Value.bool (Option.some.inj hm), trivial⟩, H⟩
            ·have hm := cond_t hbS hmS
             refine RL_pure (by exact wn1 rfl rfl rfl rfl) (by rfl) (by rfl) (x_move (v := .int .i64 v145.1) (by rfl)) ?_
             refine RL_pure (by exact wn1 rfl rfl rfl rfl) (by rfl) (by rfl) (x_move (v := .int .i64 y17_4) (by rfl)) ?_
             refine RL_pure (by exact wn1 rfl rfl rfl rfl) (by rfl) (by rfl) (x_eql (by rfl) (by rfl)) ?_
             refine RL_pure (by exact wn0 rfl) (by rfl) (by rfl) (x_pick_t (v := .bool (v145.1 == y17_4)) (by rfl) (by rfl)) ?_
             refine RL_nil ?_
             exact ⟨⟨congrArg Value.bool (Option.some.inj hm), trivial⟩, H⟩
           ·rintro r' w' ⟨hA, H⟩
            obtain ⟨r176, rfl⟩ := regen _ hA; clear hA
            obtain ⟨w177, rfl⟩ : ∃ W : World, W = w' := ⟨_, rfl⟩
            show RL _ _ _ _ _ _ _
            refine RL_pure (by exact wn0 rfl) (by rfl) (by rfl) (x_assign (v := .bool b175) (by rfl)) ?_
            refine RL_nil ?_
            refine W_ret ?_
            obtain rfl := Option.some.inj hm
            exact ⟨[.bool b175], (.tmp (by rfl) rfl), rfl, H.none_⟩
end Go.Proofs.YtobkigllalbkiaaV.M

/- PyramidLeast, in plain Lean: its model answers true. -/
set_option linter.unusedVariables false
set_option linter.unusedSimpArgs false
namespace Go.Proofs.YtobkigllalbkiaaV.M
theorem ck_nat {α : Type} {n : Nat} {k : Int → Option α} (h : n ≤ 9223372036854775807) : ck (n : Int) k = k n := ck_in (by omega) (by omega)
theorem lete_in {α β : Type} {x : α} {k : α → Option β} : lete x k = k x := rfl
theorem FOK.prodle {f : S_Frame} {w h : Nat} (q : FOK f w h) : w * h ≤ 4096 := Nat.mul_le_mul q.w64 q.h64
theorem MinB.bounds {w h : Nat} {v : Nat → Nat → Int} {b1 b2 m1 m2 : Int} {S : Nat → Nat → Prop} (h1 : MinB w h v b1 m1 S) (h2 : MinB w h v b2 m2 S) (hS : ∃ px py, px < w ∧ py < h ∧ S px py ∧ v px py ≤ b1 ∧ v px py ≤ b2) : m1 = m2 := by
  obtain ⟨px, py, hx, hy, hs, l1, l2⟩ := hS
  have a1 := h1.all px py hx hy hs
  have a2 := h2.all px py hx hy hs
  have c1 : ∃ qx qy, qx < w ∧ qy < h ∧ S qx qy ∧ m1 = v qx qy := by
    rcases h1.at_ with e | e
    · exact ⟨px, py, hx, hy, hs, by omega⟩
    · exact e
  have c2 : ∃ qx qy, qx < w ∧ qy < h ∧ S qx qy ∧ m2 = v qx qy := by
    rcases h2.at_ with e | e
    · exact ⟨px, py, hx, hy, hs, by omega⟩
    · exact e
  obtain ⟨ax, ay, q1, q2, q3, e1⟩ := c1
  obtain ⟨bx, by_, q4, q5, q6, e2⟩ := c2
  have := h1.all bx by_ q4 q5 q6
  have := h2.all ax ay q1 q2 q3
  omega
/-- One more pixel. -/
theorem MinB.step {w h k : Nat} {v : Nat → Nat → Int} {b m : Int} {S : Nat → Nat → Prop} (h1 : MinB w h v b m (fun px py => py * w + px < k ∧ S px py)) {x y : Nat} (hx : x < w) (hy : y < h) (hk : y * w + x = k) (hs : S x y) :
    MinB w h v b (min m (v x y)) (fun px py => py * w + px < k + 1 ∧ S px py) := by
  have hle := h1.le
  refine ⟨by omega, fun px py hpx hpy ⟨h2, h3⟩ => ?_, ?_⟩
  · by_cases he : py * w + px = k
    · have hw : 0 < w := by omega
      have e1 : px = x := by
        have a := place_mod (y := py) hpx
        have b := place_mod (y := y) hx
        rw [he] at a; rw [hk] at b; omega
      have e2 : py = y := by
        have a := place_div (y := py) hpx
        have b := place_div (y := y) hx
        rw [he] at a; rw [hk] at b; omega
      subst e1; subst e2; omega
    · have := h1.all px py hpx hpy ⟨by omega, h3⟩; omega
  · rcases (by omega : min m (v x y) = m ∨ min m (v x y) = v x y) with e | e
    · rcases h1.at_ with e1 | ⟨px, py, q1, q2, ⟨q3, q4⟩, e1⟩
      · exact .inl (e.trans e1)
      · exact .inr ⟨px, py, q1, q2, ⟨by omega, q4⟩, e.trans e1⟩
    · exact .inr ⟨x, y, hx, hy, ⟨by omega, hs⟩, e⟩
theorem MinB.skip {w h k : Nat} {v : Nat → Nat → Int} {b m : Int} {S : Nat → Nat → Prop} (h1 : MinB w h v b m (fun px py => py * w + px < k ∧ S px py)) (hw : 0 < w) (hs : ¬ S (k % w) (k / w)) :
    MinB w h v b m (fun px py => py * w + px < k + 1 ∧ S px py) := by
  refine h1.iff' fun px py hpx hpy => ?_
  constructor
  · rintro ⟨a, b⟩; exact ⟨by omega, b⟩
  · rintro ⟨a, c⟩
    refine ⟨?_, c⟩
    by_cases he : py * w + px = k
    · exfalso; apply hs
      rw [← he, place_mod hpx, place_div hpx]; exact c
    · omega
theorem MinB.start {w h : Nat} {v : Nat → Nat → Int} {b : Int} {S : Nat → Nat → Prop} : MinB w h v b b (fun px py => py * w + px < 0 ∧ S px py) := ⟨Int.le_refl _, fun px py _ _ ⟨h, _⟩ => absurd h (Nat.not_lt_zero _), .inl rfl⟩
theorem MinB.done {w h : Nat} {v : Nat → Nat → Int} {b m : Int} {S : Nat → Nat → Prop} (h1 : MinB w h v b m (fun px py => py * w + px < w * h ∧ S px py)) : MinB w h v b m S :=
  h1.iff' fun px py hpx hpy => ⟨fun q => q.2, fun q => ⟨place_lt hpx hpy, q⟩⟩
theorem split_place {w h k : Nat} (hw : 0 < w) (hk : k < w * h) : k % w < w ∧ k / w < h ∧ k / w * w + k % w = k :=
  ⟨Nat.mod_lt _ hw, Nat.div_lt_of_lt_mul hk, by rw [Nat.mul_comm]; exact Nat.div_add_mod k w⟩
/-- The last loop: the least of the rectangle. -/
theorem m5_l4_eq {K : Nat} {f : S_Frame} {w h : Nat} (q : FOK f w h) {r : S_Rect} {ok : Bool} {n : Int × Int} {m : Int} (hend : MinB w h (dv f w) 1048576 m (inR r)) : ∀ (k i : Nat) (x : Int), i ≤ w * h → w * h < i + k → MinB w h (dv f w) 1048576 x (fun px py => py * w + px < i ∧ inR r px py) →
    m5_l4 K f r ok n k x i = some (ok && (n.1 == m)) := by
  have hp : w * h ≤ 4096 := Nat.mul_le_mul q.w64 q.h64
  have hw1 := q.w1
  intro k
  induction k with
  | zero => intro i x h1 h2; omega
  | succ k ih =>
    intro i x h1 h2 hx
    show m5_l4b K f r ok n (m5_l4 K f r ok n k) x i = _
    unfold m5_l4b
    by_cases hi : i < w * h
    · have h3 : (i : Int) < (f.Depth.length : Int) := by rw [q.d]; omega
      obtain ⟨s1, s2, s3⟩ := split_place (by omega) hi
      obtain ⟨d, it, tr, g1, _, _, e, _⟩ := q.at_ s1 s2
      rw [s3] at g1
      have ne : (w : Int) ≠ 0 := by omega
      have hd64 : i / w ≤ 64 := by have := q.h64; omega
      have c2 : ∀ {α : Type} (k : Int → Option α), ck ((i / w : Nat) : Int) k = k ((i / w : Nat) : Int) := fun k => ck_nat (Nat.le_trans hd64 (by decide))
      have c3 : ∀ {α : Type} (k : Int → Option α), ck ((i : Int) + 1) k = k ((i + 1 : Nat) : Int) := fun k => ck_in (by omega) (by omega)
      have e1 : Int.tmod (i : Int) (w : Int) = ((i % w : Nat) : Int) := rfl
      have e2 : Int.tdiv (i : Int) (w : Int) = ((i / w : Nat) : Int) := rfl
      rw [decide_eq_true h3, cond_true, q.W, nz_in ne, nz_in ne, nz_in ne, nz_in ne, e1, e2, c2, c2]
      by_cases hr : inR r (i % w) (i / w)
      · have := hr
        obtain ⟨r1, r2, r3, r4⟩ := this
        rw [decide_eq_true r1, cond_true, Option.bind_some, decide_eq_true r2, cond_true, Option.bind_some, decide_eq_true r3, cond_true, Option.bind_some, decide_eq_true r4, cond_true, idx_nat g1, c3, mn_eq, ← e]
        exact ih (i + 1) _ (by omega) (by omega) (hx.step s1 s2 s3 hr)
      · have key : ∀ (R : Bool → Option Bool), ((bif (decide (r.X0 ≤ ((i % w : Nat) : Int))) then (some (decide (((i % w : Nat) : Int) ≤ r.X1))) else some false).bind fun b154 => ((bif b154 then (some (decide (r.Y0 ≤ ((i / w : Nat) : Int)))) else some false).bind fun b158 => ((bif b158 then (some (decide (((i / w : Nat) : Int) ≤ r.Y1))) else some false).bind R))) = R false := by
          intro R
          unfold inR at hr
          by_cases r1 : r.X0 ≤ ((i % w : Nat) : Int)
          · by_cases r2 : ((i % w : Nat) : Int) ≤ r.X1
            · by_cases r3 : r.Y0 ≤ ((i / w : Nat) : Int)
              · have r4 : ¬ ((i / w : Nat) : Int) ≤ r.Y1 := fun r4 => hr ⟨r1, r2, r3, r4⟩
                rw [decide_eq_true r1, decide_eq_true r2, decide_eq_true r3, decide_eq_false r4]; rfl
              · rw [decide_eq_true r1, decide_eq_true r2, decide_eq_false r3]; rfl
            · rw [decide_eq_true r1, decide_eq_false r2]; rfl
          · rw [decide_eq_false r1]; rfl
        rw [key, cond_false, c3]
        exact ih (i + 1) x (by omega) (by omega) (hx.skip (by omega) hr)
    · have h3 : ¬ (i : Int) < (f.Depth.length : Int) := by rw [q.d]; omega
      obtain rfl : i = w * h := by omega
      have : x = m := hx.done.same hend
      subst this
      rw [decide_eq_false h3, cond_false]
      cases ok <;> rfl
theorem place_inj {w x y x' y' : Nat} (hx : x < w) (hx' : x' < w) (h : y * w + x = y' * w + x') : x = x' ∧ y = y' := by
  have a := place_mod (y := y) hx
  have b := place_mod (y := y') hx'
  have c := place_div (y := y) hx
  have d := place_div (y := y') hx'
  rw [h] at a c
  exact ⟨by omega, by omega⟩
/-- The level's own numbers, held against the least. -/
theorem m5_l3_eq {K s lev : Nat} {rec1 : Int → Int → Option Bool} {el : S_Level} {L : List Int} (hn : L.length ≤ 100000) (hs : s ≤ 1000) (hlev : lev ≤ 1000)
    (hall : ∀ (j : Nat) (c : Int), L[j]? = some c → -100000 ≤ c ∧ c ≤ 0 ∧ el.Low[j]? = some (c + 70000)) : ∀ (k i : Nat), i ≤ L.length → L.length < i + k → m5_l3 K s lev rec1 el L k i = rec1 (2 * s : Nat) (lev + 1 : Nat) := by
  intro k
  induction k with
  | zero => intro i h1 h2; omega
  | succ k ih =>
    intro i h1 h2
    show m5_l3b K s lev rec1 el L (m5_l3 K s lev rec1 el L k) i = _
    unfold m5_l3b
    by_cases hi : i < L.length
    · have h3 : (i : Int) < (L.length : Int) := by omega
      have g1 : L[i]? = some L[i] := List.getElem?_eq_getElem hi
      obtain ⟨c1, c2, g2⟩ := hall i _ g1
      rw [decide_eq_true h3, cond_true, idx_nat g1, ck_in (by omega) (by omega), idx_nat g2, show ((L[i] + 70000) != (L[i] + 70000)) = false by simp, cond_false, cast_succ, ck_nat (by omega)]
      exact ih (i + 1) (by omega) (by omega)
    · have h3 : ¬ (i : Int) < (L.length : Int) := by omega
      have e1 : (2 : Int) * (s : Int) = ((2 * s : Nat) : Int) := by push_cast; rfl
      rw [decide_eq_false h3, cond_false, e1, ck_nat (by omega), cast_succ, ck_nat (by omega)]
/-- The least below each place of a level. -/
def Lst (w h a b s k : Nat) (v : Nat → Nat → Int) (L : List Int) : Prop :=
  L.length = a * b ∧ ∀ x y, x < a → y < b → ∃ c, L[y * a + x]? = some c ∧ MinB w h (fun px py => v px py - 70000) 0 c (fun px py => py * w + px < k ∧ (px / s = x ∧ py / s = y))
theorem m5_l2_eq {K : Nat} {f : S_Frame} {w h a b s lev : Nat} (q : FOK f w h) {rec1 : Int → Int → Option Bool} {u : Nat → Nat → Int} (hs1 : 1 ≤ s) (hs : s ≤ 64) (ha64 : a ≤ 64) (hb64 : b ≤ 64) (ha : ∀ px, px < w → px / s < a) (hb : ∀ py, py < h → py / s < b) {res : Option Bool}
    (hend : ∀ L, Lst w h a b s (w * h) (dv f w) L → m5_l3 K s lev rec1 (mkL a b u) L K 0 = res) : ∀ (k i : Nat) (L : List Int), i ≤ w * h → w * h < i + k → Lst w h a b s i (dv f w) L → m5_l2 K f s lev rec1 (mkL a b u) k L i = res := by
  have hp : w * h ≤ 4096 := Nat.mul_le_mul q.w64 q.h64
  have hab : a * b ≤ 4096 := Nat.mul_le_mul ha64 hb64
  have hw1 := q.w1
  intro k
  induction k with
  | zero => intro i L h1 h2; omega
  | succ k ih =>
    intro i L h1 h2 hL
    show m5_l2b K f s lev rec1 (mkL a b u) (m5_l2 K f s lev rec1 (mkL a b u) k) L i = _
    unfold m5_l2b
    by_cases hi : i < w * h
    · have h3 : (i : Int) < (f.Depth.length : Int) := by rw [q.d]; omega
      obtain ⟨s1, s2, s3⟩ := split_place (by omega) hi
      obtain ⟨d, it, tr, g1, _, _, e, hpix⟩ := q.at_ s1 s2
      rw [s3] at g1
      have hrange := hpix.range
      have hx := ha _ s1
      have hy := hb _ s2
      have hh64 := q.h64
      have b1 : i / w ≤ 64 := by have := s2; exact Nat.le_trans (Nat.le_of_lt this) hh64
      have b2 : i / w / s ≤ 64 := Nat.le_trans (Nat.le_of_lt hy) hb64
      have b3 : i % w / s ≤ 64 := Nat.le_trans (Nat.le_of_lt hx) ha64
      have hlt := place_lt hx hy
      obtain ⟨c, gc, hc⟩ := hL.2 _ _ hx hy
      have ne : (w : Int) ≠ 0 := by omega
      have ne2 : (s : Int) ≠ 0 := by omega
      have b4 : i / w / s * a ≤ 64 * 64 := Nat.mul_le_mul b2 ha64
      have k1 : ∀ {α : Type} (k : Int → Option α), ck ((i / w : Nat) : Int) k = k ((i / w : Nat) : Int) := fun k => ck_nat (Nat.le_trans b1 (by decide))
      have k2 : ∀ {α : Type} (k : Int → Option α), ck ((i / w / s : Nat) : Int) k = k ((i / w / s : Nat) : Int) := fun k => ck_nat (Nat.le_trans b2 (by decide))
      have k3 : ∀ {α : Type} (k : Int → Option α), ck ((i / w / s * a : Nat) : Int) k = k ((i / w / s * a : Nat) : Int) := fun k => ck_nat (Nat.le_trans b4 (by decide))
      have k4 : ∀ {α : Type} (k : Int → Option α), ck ((i % w / s : Nat) : Int) k = k ((i % w / s : Nat) : Int) := fun k => ck_nat (Nat.le_trans b3 (by decide))
      have k5 : ∀ {α : Type} (k : Int → Option α), ck ((i / w / s * a + i % w / s : Nat) : Int) k = k ((i / w / s * a + i % w / s : Nat) : Int) := fun k => ck_nat (Nat.le_trans (Nat.add_le_add b4 b3) (by decide))
      have e1 : Int.tdiv (i : Int) (w : Int) = ((i / w : Nat) : Int) := rfl
      have e2 : Int.tdiv ((i / w : Nat) : Int) (s : Int) = ((i / w / s : Nat) : Int) := rfl
      have e3 : Int.tmod (i : Int) (w : Int) = ((i % w : Nat) : Int) := rfl
      have e4 : Int.tdiv ((i % w : Nat) : Int) (s : Int) = ((i % w / s : Nat) : Int) := rfl
      have e5 : ((i / w / s : Nat) : Int) * (mkL a b u).W = ((i / w / s * a : Nat) : Int) := by show ((i / w / s : Nat) : Int) * (a : Int) = _; push_cast; rfl
      have e6 : ((i / w / s * a : Nat) : Int) + ((i % w / s : Nat) : Int) = ((i / w / s * a + i % w / s : Nat) : Int) := by push_cast; rfl
      have h4 : ¬ (L.length : Int) ≤ ((i / w / s * a + i % w / s : Nat) : Int) := by
        rw [hL.1]; exact Int.not_le.2 (by exact_mod_cast hlt)
      rw [decide_eq_true h3, cond_true, q.W, nz_in ne, e1, k1, nz_in ne2, e2, k2, e5, k3, nz_in ne, nz_in ne2, e3, e4, k4, e6, k5, decide_eq_false h4, cond_false, idx_nat gc, idx_nat g1, ck_in (by omega) (by omega), idx_nat gc]
      rw [lete_in, cast_succ, ck_nat (by have := q.prodle; omega), mn_eq]
      refine ih (i + 1) _ (by omega) (by omega) ⟨by rw [List.length_set]; exact hL.1, fun x y hx' hy' => ?_⟩
      by_cases hxy : x = i % w / s ∧ y = i / w / s
      · obtain ⟨rfl, rfl⟩ := hxy
        refine ⟨min c (d - 70000), ?_, ?_⟩
        · rw [Int.toNat_natCast, List.getElem?_set_self (by rw [hL.1]; exact hlt)]
        · have := hc.step (x := i % w) (y := i / w) s1 s2 s3 ⟨rfl, rfl⟩
          rw [e] at this
          exact this
      · obtain ⟨c', gc', hc'⟩ := hL.2 x y hx' hy'
        refine ⟨c', ?_, hc'.skip (by omega) fun hS => hxy ⟨hS.1.symm, hS.2.symm⟩⟩
        rw [Int.toNat_natCast, List.getElem?_set_ne]
        · exact gc'
        · intro he
          obtain ⟨z1, z2⟩ := place_inj hx hx' he
          exact hxy ⟨z1.symm, z2.symm⟩
    · have h3 : ¬ (i : Int) < (f.Depth.length : Int) := by rw [q.d]; omega
      obtain rfl : i = w * h := by omega
      rw [decide_eq_false h3, cond_false]
      exact hend L hL
theorem Lst.start {w h a b s : Nat} {v : Nat → Nat → Int} : Lst w h a b s 0 v (List.replicate (a * b) 0) := by
  refine ⟨List.length_replicate, fun x y hx hy => ⟨0, ?_, MinB.start⟩⟩
  rw [List.getElem?_replicate, if_pos (place_lt hx hy)]
/-- What the loop found is what the level says. -/
theorem Lst.level {w h i : Nat} {v : Nat → Nat → Int} {L : List Int} (d : Dom w h v) (hL : Lst w h (wi w i) (wi h i) (2 ^ i) (w * h) v L) :
    ∀ (j : Nat) (c : Int), L[j]? = some c → -100000 ≤ c ∧ c ≤ 0 ∧ (mkL (wi w i) (wi h i) (vi w h v i)).Low[j]? = some (c + 70000) := by
  intro j c hc
  have hj : j < wi w i * wi h i := by
    have := (List.getElem?_eq_some_iff.1 hc).1
    rw [hL.1] at this; exact this
  obtain ⟨s1, s2, s3⟩ := split_place (wi_pos d.w1 i) hj
  obtain ⟨c', g, hm⟩ := hL.2 _ _ s1 s2
  rw [s3] at g
  rw [hc] at g
  obtain rfl := Option.some.inj g
  have hl := vi_least d.hi i _ _ s1 s2
  obtain ⟨px, py, hpx, hpy, e1, e2, ev⟩ := hl.1
  have hlo := d.lo px py hpx hpy
  have hhi := d.hi px py hpx hpy
  have hm' := hm.done
  have hv : MinB w h (fun px py => v px py - 70000) 0 (vi w h v i (j % wi w i) (j / wi w i) - 70000) (fun px py => px / 2 ^ i = j % wi w i ∧ py / 2 ^ i = j / wi w i) := by
    refine ⟨by omega, fun qx qy hqx hqy hq => ?_, .inr ⟨px, py, hpx, hpy, ⟨e1, e2⟩, by rw [ev]⟩⟩
    have := hl.2 qx qy hqx hqy hq.1 hq.2
    show _ ≤ v qx qy - 70000
    omega
  have := hm'.same hv
  refine ⟨by omega, by omega, ?_⟩
  have g2 := mkL_get (v := vi w h v i) s1 s2
  rw [s3] at g2
  rw [g2]
  congr 1; omega
theorem two_pow_cast (i : Nat) : (2 : Int) * ((2 ^ i : Nat) : Int) = ((2 ^ (i + 1) : Nat) : Int) := by rw [Nat.pow_succ]; push_cast; omega
theorem m5_l1_eq {K : Nat} (hK : 10000 ≤ K) {f : S_Frame} {w h : Nat} {r : S_Rect} (q : FOK f w h) : ∀ (k i : Nat), i ≤ (lvls 6 w h (dv f w)).length + 1 → (lvls 6 w h (dv f w)).length + 1 < i + k →
    m5_l1 K f r true (⟨pyr w h (dv f w)⟩, 0) k (2 ^ i : Nat) i = some true := by
  have d := q.dom
  have hll := lvls_len 6 w h (dv f w)
  have hlast := lvls_last 6 w h (dv f w) (by have := q.w64; simpa using this) (by have := q.h64; simpa using this) q.w1 q.h1
  intro k
  induction k with
  | zero => intro i h1 h2; omega
  | succ k ih =>
    intro i h1 h2
    show m5_l1b K f r true (⟨pyr w h (dv f w)⟩, 0) (m5_l1 K f r true (⟨pyr w h (dv f w)⟩, 0) k) (2 ^ i : Nat) i = _
    unfold m5_l1b
    have hlen : (((⟨pyr w h (dv f w)⟩ : S_Pyramid), (0 : Int)).1.Levels.length : Nat) = (lvls 6 w h (dv f w)).length + 1 := pyr_len
    by_cases hi : i ≤ (lvls 6 w h (dv f w)).length
    · have h3 : (i : Int) < ((((⟨pyr w h (dv f w)⟩ : S_Pyramid), (0 : Int)).1.Levels.length : Nat) : Int) := by rw [hlen]; omega
      have hi6 : i ≤ 6 := by omega
      have g := pyr_get (w := w) (h := h) (v := dv f w) hi
      have a1 := wi_pos q.w1 i
      have b1 := wi_pos q.h1 i
      have a64 := wi_le q.w64 i
      have b64 := wi_le q.h64 i
      obtain ⟨s1, s64⟩ := pow_le hi6
      have hl := hlast i hi
      have hlt1 : ∀ px, px < w → px / 2 ^ i < wi w i := fun px hp => lt_wi hp i
      have hlt2 : ∀ py, py < h → py / 2 ^ i < wi h i := fun py hp => lt_wi hp i
      have hlv := fun L (hL : Lst w h (wi w i) (wi h i) (2 ^ i) (w * h) (dv f w) L) => Lst.level d hL
      have hab : wi w i * wi h i ≤ 4096 := Nat.mul_le_mul a64 b64
      have e2 : (wi w i : Int) * (wi h i : Int) = ((wi w i * wi h i : Nat) : Int) := by push_cast; rfl
      have eW : (mkL (wi w i) (wi h i) (vi w h (dv f w) i)).W = (wi w i : Int) := rfl
      have eH : (mkL (wi w i) (wi h i) (vi w h (dv f w) i)).H = (wi h i : Int) := rfl
      have c1 : ¬ ((wi w i : Nat) : Int) < 1 := by omega
      have c2 : ¬ ((wi h i : Nat) : Int) < 1 := by omega
      have hb : ((bif ((wi w i : Int) == 1) then some ((wi h i : Int) == 1) else some false).bind fun b69 => (ck (((((⟨pyr w h (dv f w)⟩ : S_Pyramid), (0 : Int)).1.Levels.length : Nat) : Int) - 1) fun x72 => some (!(b69 == ((i : Int) == x72))))) = some false := by
        have e1 : (((((⟨pyr w h (dv f w)⟩ : S_Pyramid), (0 : Int)).1.Levels.length : Nat) : Int) - 1) = ((lvls 6 w h (dv f w)).length : Int) := by rw [hlen]; omega
        have ckn : ∀ {α : Type} (k : Int → Option α), ck ((lvls 6 w h (dv f w)).length : Int) k = k ((lvls 6 w h (dv f w)).length : Int) := fun k => ck_nat (by omega)
        rw [e1]
        simp only [ckn]
        by_cases p1 : wi w i = 1 ∧ wi h i = 1
        · have := hl.1 p1
          rw [show ((wi w i : Int) == 1) = true by simp; omega, show ((wi h i : Int) == 1) = true by simp; omega, show ((i : Int) == ((lvls 6 w h (dv f w)).length : Int)) = true by simp; omega]; rfl
        · have p2 : ¬ i = (lvls 6 w h (dv f w)).length := fun e => p1 (hl.2 e)
          rw [show ((i : Int) == ((lvls 6 w h (dv f w)).length : Int)) = false by simp; omega]
          by_cases p3 : wi w i = 1
          · rw [show ((wi w i : Int) == 1) = true by simp; omega, show ((wi h i : Int) == 1) = false by simp; omega]; rfl
          · rw [show ((wi w i : Int) == 1) = false by simp; omega]; rfl
      rw [decide_eq_true h3, cond_true, idx_nat g, eW, eH, decide_eq_false c1, cond_false, decide_eq_false c2, Option.bind_some, cond_false, e2, ck_nat (by omega), mkL_len, bne_self_eq_false, Option.bind_some, cond_false, hb, Option.bind_some, cond_false, mks_in (by omega) (by omega)]
      have hst : List.replicate (((wi w i * wi h i : Nat) : Int)).toNat (0 : Int) = List.replicate (wi w i * wi h i) 0 := by rw [Int.toNat_natCast]
      rw [hst]
      have key := m5_l2_eq (K := K) (f := f) (w := w) (h := h) (a := wi w i) (b := wi h i) (s := 2 ^ i) (lev := i) q (rec1 := m5_l1 K f r true (⟨pyr w h (dv f w)⟩, 0) k) (u := vi w h (dv f w) i) s1 s64 a64 b64 hlt1 hlt2 (res := some true) (fun L hL => ?_) K 0 (List.replicate (wi w i * wi h i) 0) (Nat.zero_le _) (by have := q.prodle; omega) Lst.start
      · exact key
      · have e3 : m5_l3 K (2 ^ i : Nat) i (m5_l1 K f r true (⟨pyr w h (dv f w)⟩, 0) k) (mkL (wi w i) (wi h i) (vi w h (dv f w) i)) L K 0 = _ := m5_l3_eq (K := K) (s := 2 ^ i) (lev := i) (rec1 := m5_l1 K f r true (⟨pyr w h (dv f w)⟩, 0) k) (by rw [hL.1]; omega) (by omega) (by omega) (hlv L hL) K 0 (Nat.zero_le _) (by rw [hL.1]; omega)
        rw [e3]
        rw [show 2 * 2 ^ i = 2 ^ (i + 1) by rw [Nat.pow_succ, Nat.mul_comm]]
        exact ih (i + 1) (by omega) (by omega)
    · have h3 : ¬ (i : Int) < ((((⟨pyr w h (dv f w)⟩ : S_Pyramid), (0 : Int)).1.Levels.length : Nat) : Int) := by rw [hlen]; omega
      rw [decide_eq_false h3, cond_false]
      have eP : (((⟨pyr w h (dv f w)⟩ : S_Pyramid), (0 : Int))).1 = ⟨pyr w h (dv f w)⟩ := rfl
      rw [eP]
      rcases m17_pyr hK d r with ⟨_, e⟩ | ⟨hr, m, e, hm⟩
      · rw [e]; rfl
      · rw [e, Option.bind_some, show (((m, (0 : Int)) : Int × Int).2 != 0) = false from rfl, cond_false]
        obtain ⟨r1, r2, r3, r4, r5, r6⟩ := hr
        obtain ⟨x, hx⟩ : ∃ x : Nat, r.X0 = (x : Int) := ⟨r.X0.toNat, by omega⟩
        obtain ⟨y, hy⟩ : ∃ y : Nat, r.Y0 = (y : Int) := ⟨r.Y0.toNat, by omega⟩
        have hxw : x < w := by omega
        have hyh : y < h := by omega
        have hin : inR r x y := ⟨by omega, by omega, by omega, by omega⟩
        have hend : MinB w h (dv f w) 1048576 m (inR r) := by
          have hle := hm.le
          refine ⟨by omega, hm.all, .inr ?_⟩
          rcases hm.at_ with e | e
          · have := hm.all x y hxw hyh hin
            have := d.hi x y hxw hyh
            exact ⟨x, y, hxw, hyh, hin, by omega⟩
          · exact e
        have e4 : m5_l4 K f r true (m, 0) K 1048576 0 = _ := m5_l4_eq (r := r) (ok := true) (n := (m, 0)) q hend K 0 1048576 (Nat.zero_le _) (by have := q.prodle; omega) MinB.start
        rw [e4]
        simp
/-- PyramidLeast's model says true. -/
theorem m5_true {K : Nat} (hK : 10000 ≤ K) (hal : m34 K = some true) (f : S_Frame) (r : S_Rect) : m5 K f r = some true := by
  unfold m5
  rw [hal, Option.bind_some, show (!true) = false from rfl, cond_false]
  obtain ⟨b, hb⟩ : ∃ b, m11 K f = some b := by
    unfold m11
    cases decide (5000 < (f.Color.length : Int)) <;> cases decide (5000 < (f.Depth.length : Int)) <;> cases decide (5000 < (f.Item.length : Int)) <;> cases decide (5000 < (f.Tri.length : Int)) <;> exact ⟨_, rfl⟩
  rw [hb, Option.bind_some]
  cases b with
  | true => rfl
  | false =>
    rw [cond_false]
    rcases m15_eq hK f with ⟨w, h, q, e⟩ | ⟨_, e⟩
    · rw [e, Option.bind_some, show ((((⟨pyr w h (dv f w)⟩ : S_Pyramid), (0 : Int))).2 != 0) = false from rfl, cond_false]
      have hll := lvls_len 6 w h (dv f w)
      exact m5_l1_eq hK q K 0 (by omega) (by omega)
    · rw [e]; rfl
end Go.Proofs.YtobkigllalbkiaaV.M

/- A plain Lean function that answers as the Go function does (none: not told), and the proof that a call answers so. Written by program. -/
set_option linter.unusedVariables false
namespace Go.Proofs.YtobkigllalbkiaaV.M
open Go.RowKit Go.Proofs.YtobkigllalbkiaaV
def m21_l2b (K : Nat) (y5_1 : Int) (rec1 : Int → Option (Bool)) (el15 : S_Level) (el32 : S_Level) (rec2 : Int → Option (Bool)) (y8_2 : Int) : Option (Bool) :=
 (bif (decide (y8_2 < (el15.Low.length : Int))) then (idx el15.Low y8_2 fun el122 => (idx el32.Low y8_2 fun el129 => (bif (el122 != el129) then some false else (ck (y8_2 + 1) fun x136 => (rec2 x136))))) else (ck (y5_1 + 1) fun x137 => (rec1 x137)))
def m21_l2 (K : Nat) (y5_1 : Int) (rec1 : Int → Option (Bool)) (el15 : S_Level) (el32 : S_Level) : Nat → Int → Option (Bool)
 | 0 => fun _ => none
 | k + 1 => m21_l2b K y5_1 rec1 el15 el32 (m21_l2 K y5_1 rec1 el15 el32 k)
def m21_l1b (K : Nat) (a0 : S_Pyramid) (a1 : S_Pyramid) (rec1 : Int → Option (Bool)) (y5_1 : Int) : Option (Bool) :=
 (bif (decide (y5_1 < (a0.Levels.length : Int))) then (idx a0.Levels y5_1 fun el15 => (idx a1.Levels y5_1 fun el32 => ((bif (el15.W != el32.W) then some true else some (el15.H != el32.H)).bind fun b113 => ((bif b113 then some true else some ((el15.Low.length : Int) != (el32.Low.length : Int))).bind fun b116 => (bif b116 then some false else m21_l2 K y5_1 rec1 el15 el32 K 0))))) else some true)
def m21_l1 (K : Nat) (a0 : S_Pyramid) (a1 : S_Pyramid) : Nat → Int → Option (Bool)
 | 0 => fun _ => none
 | k + 1 => m21_l1b K a0 a1 (m21_l1 K a0 a1 k)
/-- diorama/dioramaref27.Same -/
def m21 (K : Nat) (a0 : S_Pyramid) (a1 : S_Pyramid) : Option (Bool) :=
 (bif ((a0.Levels.length : Int) != (a1.Levels.length : Int)) then some false else m21_l1 K a0 a1 K 0)
set_option maxRecDepth 100000 in
set_option maxHeartbeats 4000000 in
theorem c21 (ok : Nat → Prop) (K : Nat) (w : World) (a0 : S_Pyramid) (A1 : Option Addr) (cp2 : Nat) (a1 : S_Pyramid) (A5 : Option Addr) (cp6 : Nat) (hR3 : Rd k_Level w ok A1 cp2 a0.Levels) (hR7 : Rd k_Level w ok A5 cp6 a1.Levels) (res : Bool) (hm : m21 K a0 a1 = some res) :
  Calls Try.prog 21 #[.agg #[.slice A1 a0.Levels.length cp2], .agg #[.slice A5 a1.Levels.length cp6]] w (fun e w' => e = .returned (tup [.bool res]) ∧ Sep ok w w' [] []) := by
 refine calls_W (args := [.agg #[.slice A1 a0.Levels.length cp2], .agg #[.slice A5 a1.Levels.length cp6]]) Try.func21 rfl Try.ntmps21 Try.results21 rfl fun r hr => ?_
 obtain ⟨r1, rfl⟩ := regen (r := r) [(0, .agg #[.slice A1 a0.Levels.length cp2]), (1, .agg #[.slice A5 a1.Levels.length cp6])] ⟨hr 0 _ rfl, hr 1 _ rfl, trivial⟩
 have H : Sep ok w w [] [RE.rd k_Level A1 cp2 a0.Levels, RE.rd k_Level A5 cp6 a1.Levels] := Sep.arg (Sep.arg (Sep.start ok w) (re := RE.rd k_Level A1 cp2 a0.Levels) rfl rfl hR3) (re := RE.rd k_Level A5 cp6 a1.Levels) rfl rfl hR7
 unfold m21 at hm
 refine W_seq ?_
 refine W_region ?_
 refine RL_cons (O_box (by exact wn0 rfl) (by rfl) (by rfl) (by rfl) H (fun w10 b9 (H : Sep ok w w10 [.blk b9 28 [.slice A1 a0.Levels.length cp2]] [RE.rd k_Level A1 cp2 a0.Levels, RE.rd k_Level A5 cp6 a1.Levels]) => ?_))
 refine RL_cons (O_box (by exact wn0 rfl) (by rfl) (by rfl) (by rfl) H (fun w12 b11 (H : Sep ok w w12 [.blk b9 28 [.slice A1 a0.Levels.length cp2], .blk b11 28 [.slice A5 a1.Levels.length cp6]] [RE.rd k_Level A1 cp2 a0.Levels, RE.rd k_Level A5 cp6 a1.Levels]) => ?_))
 refine RL_pure (by exact wn0 rfl) (by rfl) (by rfl) (x_assign (v := .bool false) (by rfl)) ?_
 refine RL_nil ?_
 refine W_seq ?_
 refine W_seq ?_
 refine W_region ?_
 refine RL_pure (by exact wn0 rfl) (by rfl) (by rfl) (x_fieldAddr fo28_0 (by rfl)) ?_
 refine RL_pure (by exact wn0 rfl) (by rfl) (by rfl) (x_load (j := 0) (v := .slice A1 a0.Levels.length cp2) sc26 (by rfl) (H.cells (i := 0) (by rfl)) (by rfl)) ?_
 refine RL_pure (by exact wn0 rfl) (by rfl) (by rfl) (x_len sl26 (by rfl)) ?_
 refine RL_pure (by exact wn0 rfl) (by rfl) (by rfl) (x_fieldAddr fo28_0 (by rfl)) ?_
 refine RL_pure (by exact wn0 rfl) (by rfl) (by rfl) (x_load (j := 0) (v := .slice A5 a1.Levels.length cp6) sc26 (by rfl) (H.cells (i := 1) (by rfl)) (by rfl)) ?_
 refine RL_pure (by exact wn0 rfl) (by rfl) (by rfl) (x_len sl26 (by rfl)) ?_
 refine RL_pure (by exact wn0 rfl) (by rfl) (by rfl) (x_neq (by rfl) (by rfl)) ?_
 refine RL_nil ?_
 refine W_cond (by rfl) (fun hb => ?_) (fun hb => ?_)
 ·have hm := cond_t hb hm
  refine W_seq ?_
  refine W_region ?_
  refine RL_pure (by exact wn0 rfl) (by rfl) (by rfl) (x_assign (v := .bool false) (by rfl)) ?_
  refine RL_nil ?_
  refine W_ret ?_
  obtain rfl := Option.some.inj hm
  exact ⟨[.bool false], (.tmp (by rfl) rfl), rfl, H.none_⟩
 ·have hm := cond_f hb hm
  refine W_skip ?_
  refine W_seq ?_
  refine W_seq ?_
  refine W_region ?_
  refine RL_pure (by exact wn0 rfl) (by rfl) (by rfl) (x_assign (v := .int .i64 0) (by rfl)) ?_
  refine RL_nil ?_
  refine W_block ?_
  refine W_loop (fun k1 r' w' => ∃ (y5_1 : Int), m21_l1 K a0 a1 k1 y5_1 = some res ∧ Agr [(2, .pointer (some ⟨b9, 0, none⟩)), (3, .pointer (some ⟨b11, 0, none⟩)), (5, .int .i64 y5_1)] r' ∧ Sep ok w w' [.blk b9 28 [.slice A1 a0.Levels.length cp2], .blk b11 28 [.slice A5 a1.Levels.length cp6]] [RE.rd k_Level A1 cp2 a0.Levels, RE.rd k_Level A5 cp6 a1.Levels]) K ?_ ?_
  ·exact ⟨0, hm, ⟨rfl, rfl, rfl, trivial⟩, H⟩
  ·rintro k1 r' w' ⟨y5_1, hm, hA, H⟩
   obtain ⟨r13, rfl⟩ := regen _ hA; clear hA
   obtain ⟨w14, rfl⟩ : ∃ W : World, W = w' := ⟨_, rfl⟩
   cases k1 with
   | zero => exact (none_some hm).elim
   | succ k1 =>
    have hm : m21_l1b K a0 a1 (m21_l1 K a0 a1 k1) y5_1 = some res := hm
    unfold m21_l1b at hm
    obtain ⟨rec1, hrec1⟩ : ∃ f, m21_l1 K a0 a1 k1 = f := ⟨_, rfl⟩
    rw [hrec1] at hm
    refine W_seq ?_
    refine W_seq ?_
    refine W_region ?_
    refine RL_pure (by exact wn0 rfl) (by rfl) (by rfl) (x_move (v := .int .i64 y5_1) (by rfl)) ?_
    refine RL_pure (by exact wn0 rfl) (by rfl) (by rfl) (x_fieldAddr fo28_0 (by rfl)) ?_
    refine RL_pure (by exact wn0 rfl) (by rfl) (by rfl) (x_load (j := 0) (v := .slice A1 a0.Levels.length cp2) sc26 (by rfl) (H.cells (i := 0) (by rfl)) (by rfl)) ?_
    refine RL_pure (by exact wn0 rfl) (by rfl) (by rfl) (x_len sl26 (by rfl)) ?_
    refine RL_pure (by exact wn0 rfl) (by rfl) (by rfl) (x_lss (by rfl) (by rfl)) ?_
    refine RL_nil ?_
    refine W_cond (by rfl) (fun hb => ?_) (fun hb => ?_)
    ·have hm := cond_t hb hm
     refine W_skip ?_
     refine W_seq ?_
     refine W_block ?_
     refine W_seq ?_
     obtain ⟨el15, h16, h17, he18, hm⟩ := idx_some hm
     obtain ⟨g20, o21, hA19⟩ := (H.rd (i := 0) (by rfl)).addr he18
     obtain ⟨cs22, hk23, hat24, hg_cs22⟩ := (H.rd (i := 0) (by rfl)).openAt hA19 he18
     obtain ⟨A27, cp28, rfl, hR30⟩ := hk23
     have H : Sep ok w w14 [.blk b9 28 [.slice A1 a0.Levels.length cp2], .blk b11 28 [.slice A5 a1.Levels.length cp6]] [RE.rd k_Level A1 cp2 a0.Levels, RE.rd k_Level A5 cp6 a1.Levels, RE.cells g20 (o21 + (y5_1).toNat * 3) [.int .i64 el15.W, .int .i64 el15.H, .slice A27 el15.Low.length cp28]] := Sep.also H (re := RE.cells g20 (o21 + (y5_1).toNat * 3) [.int .i64 el15.W, .int .i64 el15.H, .slice A27 el15.Low.length cp28]) ⟨hg_cs22.1, hg_cs22.2, hat24⟩
     have H : Sep ok w w14 [.blk b9 28 [.slice A1 a0.Levels.length cp2], .blk b11 28 [.slice A5 a1.Levels.length cp6]] [RE.rd k_Level A1 cp2 a0.Levels, RE.rd k_Level A5 cp6 a1.Levels, RE.cells g20 (o21 + (y5_1).toNat * 3) [.int .i64 el15.W, .int .i64 el15.H, .slice A27 el15.Low.length cp28], RE.rd kInt A27 cp28 el15.Low] := Sep.also H (re := RE.rd kInt A27 cp28 el15.Low) hR30
     obtain ⟨el32, h33, h34, he35, hm⟩ := idx_some hm
     obtain ⟨g37, o38, hA36⟩ := (H.rd (i := 1) (by rfl)).addr he35
     obtain ⟨cs39, hk40, hat41, hg_cs39⟩ := (H.rd (i := 1) (by rfl)).openAt hA36 he35
     obtain ⟨A44, cp45, rfl, hR47⟩ := hk40
     have H : Sep ok w w14 [.blk b9 28 [.slice A1 a0.Levels.length cp2], .blk b11 28 [.slice A5 a1.Levels.length cp6]] [RE.rd k_Level A1 cp2 a0.Levels, RE.rd k_Level A5 cp6 a1.Levels, RE.cells g20 (o21 + (y5_1).toNat * 3) [.int .i64 el15.W, .int .i64 el15.H, .slice A27 el15.Low.length cp28], RE.rd kInt A27 cp28 el15.Low, RE.cells g37 (o38 + (y5_1).toNat * 3) [.int .i64 el32.W, .int .i64 el32.H, .slice A44 el32.Low.length cp45]] := Sep.also H (re := RE.cells g37 (o38 + (y5_1).toNat * 3) [.int .i64 el32.W, .int .i64 el32.H, .slice A44 el32.Low.length cp45]) ⟨hg_cs39.1, hg_cs39.2, hat41⟩
     have H : Sep ok w w14 [.blk b9 28 [.slice A1 a0.Levels.length cp2], .blk b11 28 [.slice A5 a1.Levels.length cp6]] [RE.rd k_Level A1 cp2 a0.Levels, RE.rd k_Level A5 cp6 a1.Levels, RE.cells g20 (o21 + (y5_1).toNat * 3) [.int .i64 el15.W, .int .i64 el15.H, .slice A27 el15.Low.length cp28], RE.rd kInt A27 cp28 el15.Low, RE.cells g37 (o38 + (y5_1).toNat * 3) [.int .i64 el32.W, .int .i64 el32.H, .slice A44 el32.Low.length cp45], RE.rd kInt A44 cp45 el32.Low] := Sep.also H (re := RE.rd kInt A44 cp45 el32.Low) hR47
     refine W_drawT (.free 0 (.take 1 (.free 2 (.free 3 (.take 4 (.free 5 (.take 6 (.free 7 (.free 8 (.take 9 (.all (.br 10 (.all (.br 11 (.all (.br 12 (.lin [.tail 13]) (.stop))) (.stop))) (.br 11 (.all (.br 10 (.all (.br 12 (.lin [.tail 13]) (.stop))) (.stop))) (.stop)))))))))))))) (fun wS => Sep ok w wS [.blk b9 28 [.slice A1 a0.Levels.length cp2], .blk b11 28 [.slice A5 a1.Levels.length cp6]] [RE.rd k_Level A1 cp2 a0.Levels, RE.rd k_Level A5 cp6 a1.Levels, RE.cells g20 (o21 + (y5_1).toNat * 3) [.int .i64 el15.W, .int .i64 el15.H, .slice A27 el15.Low.length cp28], RE.rd kInt A27 cp28 el15.Low, RE.cells g37 (o38 + (y5_1).toNat * 3) [.int .i64 el32.W, .int .i64 el32.H, .slice A44 el32.Low.length cp45], RE.rd kInt A44 cp45 el32.Low]) [13] [0, 2, 3, 5, 7, 8] mixed0 (by kernel_rfl) (by kernel_rfl) (by kernel_rfl) (by kernel_rfl) (by exact H.drew) ?_
     obtain ⟨w54, hW⟩ : ∃ W : World, W = { w14 with drawn := w14.drawn + 1 } := ⟨_, rfl⟩
     rw [← hW]
     have H : Sep ok w w54 [.blk b9 28 [.slice A1 a0.Levels.length cp2], .blk b11 28 [.slice A5 a1.Levels.length cp6]] [RE.rd k_Level A1 cp2 a0.Levels, RE.rd k_Level A5 cp6 a1.Levels, RE.cells g20 (o21 + (y5_1).toNat * 3) [.int .i64 el15.W, .int .i64 el15.H, .slice A27 el15.Low.length cp28], RE.rd kInt A27 cp28 el15.Low, RE.cells g37 (o38 + (y5_1).toNat * 3) [.int .i64 el32.W, .int .i64 el32.H, .slice A44 el32.Low.length cp45], RE.rd kInt A44 cp45 el32.Low] := by rw [hW]; exact H.drew
     clear hW
     refine PRT_free (by rfl) (by rfl) (by rfl) (by exact wn0 rfl) (fun wS => (x_fieldAddr fo28_0 (by rfl))) ?_
     refine PRT_take (by rfl) (by rfl) (by rfl) (by exact wn0 rfl) (fun wS (H : Sep ok w wS [.blk b9 28 [.slice A1 a0.Levels.length cp2], .blk b11 28 [.slice A5 a1.Levels.length cp6]] [RE.rd k_Level A1 cp2 a0.Levels, RE.rd k_Level A5 cp6 a1.Levels, RE.cells g20 (o21 + (y5_1).toNat * 3) [.int .i64 el15.W, .int .i64 el15.H, .slice A27 el15.Low.length cp28], RE.rd kInt A27 cp28 el15.Low, RE.cells g37 (o38 + (y5_1).toNat * 3) [.int .i64 el32.W, .int .i64 el32.H, .slice A44 el32.Low.length cp45], RE.rd kInt A44 cp45 el32.Low]) => (x_load (j := 0) (v := .slice A1 a0.Levels.length cp2) sc26 (by rfl) (H.cells (i := 0) (by rfl)) (by rfl))) ?_
     refine PRT_free (by rfl) (by rfl) (by rfl) (by exact wn0 rfl) (fun wS => (x_move (v := .int .i64 y5_1) (by rfl))) ?_
     refine PRT_free (by rfl) (by rfl) (by rfl) (by exact wn0 rfl) (fun wS => (x_indexAddr sl26 sz54 (by rfl) (by rfl) hA19 h16 h17)) ?_
     refine PRT_take (by rfl) (by rfl) (by rfl) (by exact wn0 rfl) (fun wS (H : Sep ok w wS [.blk b9 28 [.slice A1 a0.Levels.length cp2], .blk b11 28 [.slice A5 a1.Levels.length cp6]] [RE.rd k_Level A1 cp2 a0.Levels, RE.rd k_Level A5 cp6 a1.Levels, RE.cells g20 (o21 + (y5_1).toNat * 3) [.int .i64 el15.W, .int .i64 el15.H, .slice A27 el15.Low.length cp28], RE.rd kInt A27 cp28 el15.Low, RE.cells g37 (o38 + (y5_1).toNat * 3) [.int .i64 el32.W, .int .i64 el32.H, .slice A44 el32.Low.length cp45], RE.rd kInt A44 cp45 el32.Low]) => (x_loadA (j := 0) (vs := [.int .i64 el15.W, .int .i64 el15.H, .slice A27 el15.Low.length cp28]) ag54 (by rfl) (H.cellsR (i := 2) (by rfl)) (by rfl) (by rfl))) ?_
     refine PRT_free (by rfl) (by rfl) (by rfl) (by exact wn0 rfl) (fun wS => (x_fieldAddr fo28_0 (by rfl))) ?_
     refine PRT_take (by rfl) (by rfl) (by rfl) (by exact wn0 rfl) (fun wS (H : Sep ok w wS [.blk b9 28 [.slice A1 a0.Levels.length cp2], .blk b11 28 [.slice A5 a1.Levels.length cp6]] [RE.rd k_Level A1 cp2 a0.Levels, RE.rd k_Level A5 cp6 a1.Levels, RE.cells g20 (o21 + (y5_1).toNat * 3) [.int .i64 el15.W, .int .i64 el15.H, .slice A27 el15.Low.length cp28], RE.rd kInt A27 cp28 el15.Low, RE.cells g37 (o38 + (y5_1).toNat * 3) [.int .i64 el32.W, .int .i64 el32.H, .slice A44 el32.Low.length cp45], RE.rd kInt A44 cp45 el32.Low]) => (x_load (j := 0) (v := .slice A5 a1.Levels.length cp6) sc26 (by rfl) (H.cells (i := 1) (by rfl)) (by rfl))) ?_
     refine PRT_free (by rfl) (by rfl) (by rfl) (by exact wn0 rfl) (fun wS => (x_move (v := .int .i64 y5_1) (by rfl))) ?_
     refine PRT_free (by rfl) (by rfl) (by rfl) (by exact wn0 rfl) (fun wS => (x_indexAddr sl26 sz54 (by rfl) (by rfl) hA36 h33 h34)) ?_
     refine PRT_take (by rfl) (by rfl) (by rfl) (by exact wn0 rfl) (fun wS (H : Sep ok w wS [.blk b9 28 [.slice A1 a0.Levels.length cp2], .blk b11 28 [.slice A5 a1.Levels.length cp6]] [RE.rd k_Level A1 cp2 a0.Levels, RE.rd k_Level A5 cp6 a1.Levels, RE.cells g20 (o21 + (y5_1).toNat * 3) [.int .i64 el15.W, .int .i64 el15.H, .slice A27 el15.Low.length cp28], RE.rd kInt A27 cp28 el15.Low, RE.cells g37 (o38 + (y5_1).toNat * 3) [.int .i64 el32.W, .int .i64 el32.H, .slice A44 el32.Low.length cp45], RE.rd kInt A44 cp45 el32.Low]) => (x_loadA (j := 0) (vs := [.int .i64 el32.W, .int .i64 el32.H, .slice A44 el32.Low.length cp45]) ag54 (by rfl) (H.cellsR (i := 4) (by rfl)) (by rfl) (by rfl))) ?_
     refine PRT_meet (fun r' w' => ∃ (b49 : Nat), ∃ (b51 : Nat), Agr [(2, .pointer (some ⟨b9, 0, none⟩)), (3, .pointer (some ⟨b11, 0, none⟩)), (5, .int .i64 y5_1), (6, .pointer (some ⟨b49, 0, none⟩)), (7, .pointer (some ⟨b51, 0, none⟩)), (32, .agg #[.int .i64 el32.W, .int .i64 el32.H, .slice A44 el32.Low.length cp45])] r' ∧ Sep ok w w' [.blk b9 28 [.slice A1 a0.Levels.length cp2], .blk b11 28 [.slice A5 a1.Levels.length cp6], .blk b49 54 [.int .i64 el15.W, .int .i64 el15.H, .slice A27 el15.Low.length cp28], .blk b51 54 [.int .i64 0, .int .i64 0, .slice none 0 0]] [RE.rd k_Level A1 cp2 a0.Levels, RE.rd k_Level A5 cp6 a1.Levels, RE.cells g20 (o21 + (y5_1).toNat * 3) [.int .i64 el15.W, .int .i64 el15.H, .slice A27 el15.Low.length cp28], RE.rd kInt A27 cp28 el15.Low, RE.cells g37 (o38 + (y5_1).toNat * 3) [.int .i64 el32.W, .int .i64 el32.H, .slice A44 el32.Low.length cp45], RE.rd kInt A44 cp45 el32.Low]) (.lin [.tail 13]) ?_ ?_
     ·intro hJ10_11_12
      refine PRT_meet (fun r' w' => ∃ (b49 : Nat), ∃ (b51 : Nat), Agr [(2, .pointer (some ⟨b9, 0, none⟩)), (3, .pointer (some ⟨b11, 0, none⟩)), (5, .int .i64 y5_1), (6, .pointer (some ⟨b49, 0, none⟩)), (7, .pointer (some ⟨b51, 0, none⟩)), (27, .agg #[.int .i64 el15.W, .int .i64 el15.H, .slice A27 el15.Low.length cp28]), (32, .agg #[.int .i64 el32.W, .int .i64 el32.H, .slice A44 el32.Low.length cp45])] r' ∧ Sep ok w w' [.blk b9 28 [.slice A1 a0.Levels.length cp2], .blk b11 28 [.slice A5 a1.Levels.length cp6], .blk b49 54 [.int .i64 0, .int .i64 0, .slice none 0 0], .blk b51 54 [.int .i64 0, .int .i64 0, .slice none 0 0]] [RE.rd k_Level A1 cp2 a0.Levels, RE.rd k_Level A5 cp6 a1.Levels, RE.cells g20 (o21 + (y5_1).toNat * 3) [.int .i64 el15.W, .int .i64 el15.H, .slice A27 el15.Low.length cp28], RE.rd kInt A27 cp28 el15.Low, RE.cells g37 (o38 + (y5_1).toNat * 3) [.int .i64 el32.W, .int .i64 el32.H, .slice A44 el32.Low.length cp45], RE.rd kInt A44 cp45 el32.Low]) (.all (.br 12 (.lin [.tail 13]) (.stop))) ?_ ?_
      ·intro hJ10_11
       refine PRT_meet (fun r' w' => ∃ (b49 : Nat), Agr [(2, .pointer (some ⟨b9, 0, none⟩)), (3, .pointer (some ⟨b11, 0, none⟩)), (5, .int .i64 y5_1), (6, .pointer (some ⟨b49, 0, none⟩)), (27, .agg #[.int .i64 el15.W, .int .i64 el15.H, .slice A27 el15.Low.length cp28]), (32, .agg #[.int .i64 el32.W, .int .i64 el32.H, .slice A44 el32.Low.length cp45])] r' ∧ Sep ok w w' [.blk b9 28 [.slice A1 a0.Levels.length cp2], .blk b11 28 [.slice A5 a1.Levels.length cp6], .blk b49 54 [.int .i64 0, .int .i64 0, .slice none 0 0], .hole] [RE.rd k_Level A1 cp2 a0.Levels, RE.rd k_Level A5 cp6 a1.Levels, RE.cells g20 (o21 + (y5_1).toNat * 3) [.int .i64 el15.W, .int .i64 el15.H, .slice A27 el15.Low.length cp28], RE.rd kInt A27 cp28 el15.Low, RE.cells g37 (o38 + (y5_1).toNat * 3) [.int .i64 el32.W, .int .i64 el32.H, .slice A44 el32.Low.length cp45], RE.rd kInt A44 cp45 el32.Low]) (.all (.br 11 (.all (.br 12 (.lin [.tail 13]) (.stop))) (.stop))) ?_ ?_
       ·intro hJ10
        refine PRT_meet (fun r' w' => ∃ (b51 : Nat), Agr [(2, .pointer (some ⟨b9, 0, none⟩)), (3, .pointer (some ⟨b11, 0, none⟩)), (5, .int .i64 y5_1), (7, .pointer (some ⟨b51, 0, none⟩)), (27, .agg #[.int .i64 el15.W, .int .i64 el15.H, .slice A27 el15.Low.length cp28]), (32, .agg #[.int .i64 el32.W, .int .i64 el32.H, .slice A44 el32.Low.length cp45])] r' ∧ Sep ok w w' [.blk b9 28 [.slice A1 a0.Levels.length cp2], .blk b11 28 [.slice A5 a1.Levels.length cp6], .hole, .blk b51 54 [.int .i64 0, .int .i64 0, .slice none 0 0]] [RE.rd k_Level A1 cp2 a0.Levels, RE.rd k_Level A5 cp6 a1.Levels, RE.cells g20 (o21 + (y5_1).toNat * 3) [.int .i64 el15.W, .int .i64 el15.H, .slice A27 el15.Low.length cp28], RE.rd kInt A27 cp28 el15.Low, RE.cells g37 (o38 + (y5_1).toNat * 3) [.int .i64 el32.W, .int .i64 el32.H, .slice A44 el32.Low.length cp45], RE.rd kInt A44 cp45 el32.Low]) (.all (.br 10 (.all (.br 12 (.lin [.tail 13]) (.stop))) (.stop))) ?_ ?_
        ·intro hJ11
         have H : Sep ok w w54 [.blk b9 28 [.slice A1 a0.Levels.length cp2], .blk b11 28 [.slice A5 a1.Levels.length cp6], .hole, .hole] [RE.rd k_Level A1 cp2 a0.Levels, RE.rd k_Level A5 cp6 a1.Levels, RE.cells g20 (o21 + (y5_1).toNat * 3) [.int .i64 el15.W, .int .i64 el15.H, .slice A27 el15.Low.length cp28], RE.rd kInt A27 cp28 el15.Low, RE.cells g37 (o38 + (y5_1).toNat * 3) [.int .i64 el32.W, .int .i64 el32.H, .slice A44 el32.Low.length cp45], RE.rd kInt A44 cp45 el32.Low] := ((H).nilHole).nilHole
         refine PRT_all ?_
         refine PRT_br (by rfl) ?_ ?_
         ·show OpR _ _ _ _ _ _ _
          refine O_alloc (by exact wn0 rfl) (by rfl) ze54 (by rfl) H (fun w50 b49 (H : Sep ok w w50 [.blk b9 28 [.slice A1 a0.Levels.length cp2], .blk b11 28 [.slice A5 a1.Levels.length cp6], .hole, .hole, .blk b49 54 [.int .i64 0, .int .i64 0, .slice none 0 0]] [RE.rd k_Level A1 cp2 a0.Levels, RE.rd k_Level A5 cp6 a1.Levels, RE.cells g20 (o21 + (y5_1).toNat * 3) [.int .i64 el15.W, .int .i64 el15.H, .slice A27 el15.Low.length cp28], RE.rd kInt A27 cp28 el15.Low, RE.cells g37 (o38 + (y5_1).toNat * 3) [.int .i64 el32.W, .int .i64 el32.H, .slice A44 el32.Low.length cp45], RE.rd kInt A44 cp45 el32.Low]) => ⟨(Sep.takeL H 2), ?_⟩)
          exact hJ10 _ _ ⟨b49, ⟨rfl, rfl, rfl, rfl, rfl, rfl, trivial⟩, (H).pickL [0, 1, 4, 3] (by decide)⟩
         refine PRT_br (by rfl) ?_ ?_
         ·show OpR _ _ _ _ _ _ _
          refine O_alloc (by exact wn0 rfl) (by rfl) ze54 (by rfl) H (fun w52 b51 (H : Sep ok w w52 [.blk b9 28 [.slice A1 a0.Levels.length cp2], .blk b11 28 [.slice A5 a1.Levels.length cp6], .hole, .hole, .blk b51 54 [.int .i64 0, .int .i64 0, .slice none 0 0]] [RE.rd k_Level A1 cp2 a0.Levels, RE.rd k_Level A5 cp6 a1.Levels, RE.cells g20 (o21 + (y5_1).toNat * 3) [.int .i64 el15.W, .int .i64 el15.H, .slice A27 el15.Low.length cp28], RE.rd kInt A27 cp28 el15.Low, RE.cells g37 (o38 + (y5_1).toNat * 3) [.int .i64 el32.W, .int .i64 el32.H, .slice A44 el32.Low.length cp45], RE.rd kInt A44 cp45 el32.Low]) => ⟨(Sep.takeL H 2), ?_⟩)
          exact hJ11 _ _ ⟨b51, ⟨rfl, rfl, rfl, rfl, rfl, rfl, trivial⟩, (H).pickL [0, 1, 2, 4] (by decide)⟩
         exact PRT_stop
        ·show ∀ r w, _ → _
         rintro r' w' ⟨b51, hA, H⟩
         obtain ⟨r104, rfl⟩ := regen _ hA; clear hA
         obtain ⟨w105, rfl⟩ : ∃ W : World, W = w' := ⟨_, rfl⟩
         refine PRT_all ?_
         refine PRT_br (by rfl) ?_ ?_
         ·show OpR _ _ _ _ _ _ _
          refine O_alloc (by exact wn0 rfl) (by rfl) ze54 (by rfl) H (fun w50 b49 (H : Sep ok w w50 [.blk b9 28 [.slice A1 a0.Levels.length cp2], .blk b11 28 [.slice A5 a1.Levels.length cp6], .hole, .blk b51 54 [.int .i64 0, .int .i64 0, .slice none 0 0], .blk b49 54 [.int .i64 0, .int .i64 0, .slice none 0 0]] [RE.rd k_Level A1 cp2 a0.Levels, RE.rd k_Level A5 cp6 a1.Levels, RE.cells g20 (o21 + (y5_1).toNat * 3) [.int .i64 el15.W, .int .i64 el15.H, .slice A27 el15.Low.length cp28], RE.rd kInt A27 cp28 el15.Low, RE.cells g37 (o38 + (y5_1).toNat * 3) [.int .i64 el32.W, .int .i64 el32.H, .slice A44 el32.Low.length cp45], RE.rd kInt A44 cp45 el32.Low]) => ⟨(Sep.takeL H 2), ?_⟩)
          exact hJ10_11 _ _ ⟨b49, b51, ⟨rfl, rfl, rfl, rfl, rfl, rfl, rfl, trivial⟩, (H).pickL [0, 1, 4, 3] (by decide)⟩
         exact PRT_stop
       ·show ∀ r w, _ → _
        rintro r' w' ⟨b49, hA, H⟩
        obtain ⟨r106, rfl⟩ := regen _ hA; clear hA
        obtain ⟨w107, rfl⟩ : ∃ W : World, W = w' := ⟨_, rfl⟩
        refine PRT_all ?_
        refine PRT_br (by rfl) ?_ ?_
        ·show OpR _ _ _ _ _ _ _
         refine O_alloc (by exact wn0 rfl) (by rfl) ze54 (by rfl) H (fun w52 b51 (H : Sep ok w w52 [.blk b9 28 [.slice A1 a0.Levels.length cp2], .blk b11 28 [.slice A5 a1.Levels.length cp6], .blk b49 54 [.int .i64 0, .int .i64 0, .slice none 0 0], .hole, .blk b51 54 [.int .i64 0, .int .i64 0, .slice none 0 0]] [RE.rd k_Level A1 cp2 a0.Levels, RE.rd k_Level A5 cp6 a1.Levels, RE.cells g20 (o21 + (y5_1).toNat * 3) [.int .i64 el15.W, .int .i64 el15.H, .slice A27 el15.Low.length cp28], RE.rd kInt A27 cp28 el15.Low, RE.cells g37 (o38 + (y5_1).toNat * 3) [.int .i64 el32.W, .int .i64 el32.H, .slice A44 el32.Low.length cp45], RE.rd kInt A44 cp45 el32.Low]) => ⟨(Sep.takeL H 2), ?_⟩)
         exact hJ10_11 _ _ ⟨b49, b51, ⟨rfl, rfl, rfl, rfl, rfl, rfl, rfl, trivial⟩, (H).pickL [0, 1, 2, 4] (by decide)⟩
        exact PRT_stop
      ·show ∀ r w, _ → _
       rintro r' w' ⟨b49, b51, hA, H⟩
       obtain ⟨r108, rfl⟩ := regen _ hA; clear hA
       obtain ⟨w109, rfl⟩ : ∃ W : World, W = w' := ⟨_, rfl⟩
       refine PRT_all ?_
       refine PRT_br (by rfl) ?_ ?_
       ·show OpR _ _ _ _ _ _ _
        refine O_store (i := 2) (off := 0) (by exact wn0 rfl) (by rfl) (by rfl) H (by rfl) (vs := [.int .i64 el15.W, .int .i64 el15.H, .slice A27 el15.Low.length cp28]) (by rfl) sz54 (by rfl) (by rfl) (by rfl) (fun w53 (H : Sep ok w w53 [.blk b9 28 [.slice A1 a0.Levels.length cp2], .blk b11 28 [.slice A5 a1.Levels.length cp6], .blk b49 54 [.int .i64 el15.W, .int .i64 el15.H, .slice A27 el15.Low.length cp28], .blk b51 54 [.int .i64 0, .int .i64 0, .slice none 0 0]] [RE.rd k_Level A1 cp2 a0.Levels, RE.rd k_Level A5 cp6 a1.Levels, RE.cells g20 (o21 + (y5_1).toNat * 3) [.int .i64 el15.W, .int .i64 el15.H, .slice A27 el15.Low.length cp28], RE.rd kInt A27 cp28 el15.Low, RE.cells g37 (o38 + (y5_1).toNat * 3) [.int .i64 el32.W, .int .i64 el32.H, .slice A44 el32.Low.length cp45], RE.rd kInt A44 cp45 el32.Low]) => ⟨(Sep.takeL H 2), ?_⟩)
        exact hJ10_11_12 _ _ ⟨b49, b51, ⟨rfl, rfl, rfl, rfl, rfl, rfl, trivial⟩, H⟩
       exact PRT_stop
     ·show ∀ r w, _ → _
      rintro r' w' ⟨b49, b51, hA, H⟩
      obtain ⟨r110, rfl⟩ := regen _ hA; clear hA
      obtain ⟨w111, rfl⟩ : ∃ W : World, W = w' := ⟨_, rfl⟩
      refine PRT_lin ?_
      refine PR_tail (by rfl) (O_store (i := 3) (off := 0) (by exact wn0 rfl) (by rfl) (by rfl) H (by rfl) (vs := [.int .i64 el32.W, .int .i64 el32.H, .slice A44 el32.Low.length cp45]) (by rfl) sz54 (by rfl) (by rfl) (by rfl) (fun w112 (H : Sep ok w w112 [.blk b9 28 [.slice A1 a0.Levels.length cp2], .blk b11 28 [.slice A5 a1.Levels.length cp6], .blk b49 54 [.int .i64 el15.W, .int .i64 el15.H, .slice A27 el15.Low.length cp28], .blk b51 54 [.int .i64 el32.W, .int .i64 el32.H, .slice A44 el32.Low.length cp45]] [RE.rd k_Level A1 cp2 a0.Levels, RE.rd k_Level A5 cp6 a1.Levels, RE.cells g20 (o21 + (y5_1).toNat * 3) [.int .i64 el15.W, .int .i64 el15.H, .slice A27 el15.Low.length cp28], RE.rd kInt A27 cp28 el15.Low, RE.cells g37 (o38 + (y5_1).toNat * 3) [.int .i64 el32.W, .int .i64 el32.H, .slice A44 el32.Low.length cp45], RE.rd kInt A44 cp45 el32.Low]) => ?_))
      refine PR_nil ?_
      refine W_seq ?_
      refine W_seq ?_
      refine W_region ?_
      refine RL_pure (by exact wn0 rfl) (by rfl) (by rfl) (x_fieldAddr fo54_0 (by rfl)) ?_
      refine RL_pure (by exact wn0 rfl) (by rfl) (by rfl) (x_load (j := 0) (v := .int .i64 el15.W) sc3 (by rfl) (H.cells (i := 2) (by rfl)) (by rfl)) ?_
      refine RL_pure (by exact wn0 rfl) (by rfl) (by rfl) (x_fieldAddr fo54_0 (by rfl)) ?_
      refine RL_pure (by exact wn0 rfl) (by rfl) (by rfl) (x_load (j := 0) (v := .int .i64 el32.W) sc3 (by rfl) (H.cells (i := 3) (by rfl)) (by rfl)) ?_
      refine RL_pure (by exact wn0 rfl) (by rfl) (by rfl) (x_neq (by rfl) (by rfl)) ?_
      refine RL_pure (by exact wn0 rfl) (by rfl) (by rfl) (x_move (v := .bool (el15.W != el32.W)) (by rfl)) ?_
      obtain ⟨b113, hmS, hm⟩ := bind_some hm
      refine RL_cut 6 (fun r' w' => Agr [(44, .bool b113), (2, .pointer (some ⟨b9, 0, none⟩)), (3, .pointer (some ⟨b11, 0, none⟩)), (5, .int .i64 y5_1), (6, .pointer (some ⟨b49, 0, none⟩)), (7, .pointer (some ⟨b51, 0, none⟩))] r' ∧ Sep ok w w' [.blk b9 28 [.slice A1 a0.Levels.length cp2], .blk b11 28 [.slice A5 a1.Levels.length cp6], .blk b49 54 [.int .i64 el15.W, .int .i64 el15.H, .slice A27 el15.Low.length cp28], .blk b51 54 [.int .i64 el32.W, .int .i64 el32.H, .slice A44 el32.Low.length cp45]] [RE.rd k_Level A1 cp2 a0.Levels, RE.rd k_Level A5 cp6 a1.Levels, RE.cells g20 (o21 + (y5_1).toNat * 3) [.int .i64 el15.W, .int .i64 el15.H, .slice A27 el15.Low.length cp28], RE.rd kInt A27 cp28 el15.Low, RE.cells g37 (o38 + (y5_1).toNat * 3) [.int .i64 el32.W, .int .i64 el32.H, .slice A44 el32.Low.length cp45], RE.rd kInt A44 cp45 el32.Low]) ?_ ?_
      ·cases hbS : (el15.W != el32.W)
       ·have hm := cond_f hbS hmS
        refine RL_pure (by exact wn1 rfl rfl rfl rfl) (by rfl) (by rfl) (x_fieldAddr fo54_1 (by rfl)) ?_
        refine RL_pure (by exact wn1 rfl rfl rfl rfl) (by rfl) (by rfl) (x_load (j := 1) (v := .int .i64 el15.H) sc3 (by rfl) (H.cells (i := 2) (by rfl)) (by rfl)) ?_
        refine RL_pure (by exact wn1 rfl rfl rfl rfl) (by rfl) (by rfl) (x_fieldAddr fo54_1 (by rfl)) ?_
        refine RL_pure (by exact wn1 rfl rfl rfl rfl) (by rfl) (by rfl) (x_load (j := 1) (v := .int .i64 el32.H) sc3 (by rfl) (H.cells (i := 3) (by rfl)) (by rfl)) ?_
        refine RL_pure (by exact wn1 rfl rfl rfl rfl) (by rfl) (by rfl) (x_neq (by rfl) (by rfl)) ?_
        refine RL_pure (by exact wn0 rfl) (by rfl) (by rfl) (x_pick_f (v := .bool (el15.H != el32.H)) (by rfl) (by rfl)) ?_
        refine RL_nil ?_
        exact ⟨⟨congrArg Value.bool (Option.some.inj hm), rfl, rfl, rfl, rfl, rfl, trivial⟩, H⟩
       ·have hm := cond_t hbS hmS
        refine RL_cons (OpR_off (by exact wn2 rfl rfl rfl rfl) (by rfl) (by rfl) ?_)
        refine RL_cons (OpR_off (by exact wn2 rfl rfl rfl rfl) (by rfl) (by rfl) ?_)
        refine RL_cons (OpR_off (by exact wn2 rfl rfl rfl rfl) (by rfl) (by rfl) ?_)
        refine RL_cons (OpR_off (by exact wn2 rfl rfl rfl rfl) (by rfl) (by rfl) ?_)
        refine RL_cons (OpR_off (by exact wn2 rfl rfl rfl rfl) (by rfl) (by rfl) ?_)
        refine RL_pure (by exact wn0 rfl) (by rfl) (by rfl) (x_pick_t (v := .bool true) (by rfl) (by rfl)) ?_
        refine RL_nil ?_
        exact ⟨⟨congrArg Value.bool (Option.some.inj hm), rfl, rfl, rfl, rfl, rfl, trivial⟩, H⟩
      ·rintro r' w' ⟨hA, H⟩
       obtain ⟨r114, rfl⟩ := regen _ hA; clear hA
       obtain ⟨w115, rfl⟩ : ∃ W : World, W = w' := ⟨_, rfl⟩
       show RL _ _ _ _ _ _ _
       refine RL_pure (by exact wn0 rfl) (by rfl) (by rfl) (x_move (v := .bool b113) (by rfl)) ?_
       obtain ⟨b116, hmS, hm⟩ := bind_some hm
       refine RL_cut 8 (fun r' w' => Agr [(53, .bool b116), (2, .pointer (some ⟨b9, 0, none⟩)), (3, .pointer (some ⟨b11, 0, none⟩)), (5, .int .i64 y5_1), (6, .pointer (some ⟨b49, 0, none⟩)), (7, .pointer (some ⟨b51, 0, none⟩))] r' ∧ Sep ok w w' [.blk b9 28 [.slice A1 a0.Levels.length cp2], .blk b11 28 [.slice A5 a1.Levels.length cp6], .blk b49 54 [.int .i64 el15.W, .int .i64 el15.H, .slice A27 el15.Low.length cp28], .blk b51 54 [.int .i64 el32.W, .int .i64 el32.H, .slice A44 el32.Low.length cp45]] [RE.rd k_Level A1 cp2 a0.Levels, RE.rd k_Level A5 cp6 a1.Levels, RE.cells g20 (o21 + (y5_1).toNat * 3) [.int .i64 el15.W, .int .i64 el15.H, .slice A27 el15.Low.length cp28], RE.rd kInt A27 cp28 el15.Low, RE.cells g37 (o38 + (y5_1).toNat * 3) [.int .i64 el32.W, .int .i64 el32.H, .slice A44 el32.Low.length cp45], RE.rd kInt A44 cp45 el32.Low]) ?_ ?_
       ·cases hbS : b113
        ·have hm := cond_f hbS hmS
         refine RL_pure (by exact wn1 rfl rfl rfl rfl) (by rfl) (by rfl) (x_fieldAddr fo54_2 (by rfl)) ?_
         refine RL_pure (by exact wn1 rfl rfl rfl rfl) (by rfl) (by rfl) (x_load (j := 2) (v := .slice A27 el15.Low.length cp28) sc23 (by rfl) (H.cells (i := 2) (by rfl)) (by rfl)) ?_
         refine RL_pure (by exact wn1 rfl rfl rfl rfl) (by rfl) (by rfl) (x_len sl23 (by rfl)) ?_
         refine RL_pure (by exact wn1 rfl rfl rfl rfl) (by rfl) (by rfl) (x_fieldAddr fo54_2 (by rfl)) ?_
         refine RL_pure (by exact wn1 rfl rfl rfl rfl) (by rfl) (by rfl) (x_load (j := 2) (v := .slice A44 el32.Low.length cp45) sc23 (by rfl) (H.cells (i := 3) (by rfl)) (by rfl)) ?_
         refine RL_pure (by exact wn1 rfl rfl rfl rfl) (by rfl) (by rfl) (x_len sl23 (by rfl)) ?_
         refine RL_pure (by exact wn1 rfl rfl rfl rfl) (by rfl) (by rfl) (x_neq (by rfl) (by rfl)) ?_
         refine RL_pure (by exact wn0 rfl) (by rfl) (by rfl) (x_pick_f (v := .bool ((el15.Low.length : Int) != (el32.Low.length : Int))) (by rfl) (by rfl)) ?_
         refine RL_nil ?_
         exact ⟨⟨congrArg Value.bool (Option.some.inj hm), rfl, rfl, rfl, rfl, rfl, trivial⟩, H⟩
        ·have hm := cond_t hbS hmS
         refine RL_cons (OpR_off (by exact wn2 rfl rfl rfl rfl) (by rfl) (by rfl) ?_)
         refine RL_cons (OpR_off (by exact wn2 rfl rfl rfl rfl) (by rfl) (by rfl) ?_)
         refine RL_cons (OpR_off (by exact wn2 rfl rfl rfl rfl) (by rfl) (by rfl) ?_)
         refine RL_cons (OpR_off (by exact wn2 rfl rfl rfl rfl) (by rfl) (by rfl) ?_)
         refine RL_cons (OpR_off (by exact wn2 rfl rfl rfl rfl) (by rfl) (by rfl) ?_)
         refine RL_cons (OpR_off (by exact wn2 rfl rfl rfl rfl) (by rfl) (by rfl) ?_)
         refine RL_cons (OpR_off (by exact wn2 rfl rfl rfl rfl) (by rfl) (by rfl) ?_)
         refine RL_pure (by exact wn0 rfl) (by rfl) (by rfl) (x_pick_t (v := .bool true) (by rfl) (by rfl)) ?_
         refine RL_nil ?_
         exact ⟨⟨congrArg Value.bool (Option.some.inj hm), rfl, rfl, rfl, rfl, rfl, trivial⟩, H⟩
       ·rintro r' w' ⟨hA, H⟩
        obtain ⟨r117, rfl⟩ := regen _ hA; clear hA
        obtain ⟨w118, rfl⟩ : ∃ W : World, W = w' := ⟨_, rfl⟩
        show RL _ _ _ _ _ _ _
        refine RL_nil ?_
        refine W_cond (by rfl) (fun hb => ?_) (fun hb => ?_)
        ·have hm := cond_t hb hm
         refine W_seq ?_
         refine W_region ?_
         refine RL_pure (by exact wn0 rfl) (by rfl) (by rfl) (x_assign (v := .bool false) (by rfl)) ?_
         refine RL_nil ?_
         refine W_ret ?_
         obtain rfl := Option.some.inj hm
         exact ⟨[.bool false], (.tmp (by rfl) rfl), rfl, H.none_⟩
        ·have hm := cond_f hb hm
         refine W_skip ?_
         refine W_seq ?_
         refine W_region ?_
         refine RL_pure (by exact wn0 rfl) (by rfl) (by rfl) (x_assign (v := .int .i64 0) (by rfl)) ?_
         refine RL_nil ?_
         refine W_block ?_
         refine W_loop (fun k2 r' w' => ∃ (y8_2 : Int), m21_l2 K y5_1 rec1 el15 el32 k2 y8_2 = some res ∧ Agr [(2, .pointer (some ⟨b9, 0, none⟩)), (3, .pointer (some ⟨b11, 0, none⟩)), (5, .int .i64 y5_1), (6, .pointer (some ⟨b49, 0, none⟩)), (7, .pointer (some ⟨b51, 0, none⟩)), (8, .int .i64 y8_2)] r' ∧ Sep ok w w' [.blk b9 28 [.slice A1 a0.Levels.length cp2], .blk b11 28 [.slice A5 a1.Levels.length cp6], .blk b49 54 [.int .i64 el15.W, .int .i64 el15.H, .slice A27 el15.Low.length cp28], .blk b51 54 [.int .i64 el32.W, .int .i64 el32.H, .slice A44 el32.Low.length cp45]] [RE.rd k_Level A1 cp2 a0.Levels, RE.rd k_Level A5 cp6 a1.Levels, RE.cells g20 (o21 + (y5_1).toNat * 3) [.int .i64 el15.W, .int .i64 el15.H, .slice A27 el15.Low.length cp28], RE.rd kInt A27 cp28 el15.Low, RE.cells g37 (o38 + (y5_1).toNat * 3) [.int .i64 el32.W, .int .i64 el32.H, .slice A44 el32.Low.length cp45], RE.rd kInt A44 cp45 el32.Low]) K ?_ ?_
         ·exact ⟨0, hm, ⟨rfl, rfl, rfl, rfl, rfl, rfl, trivial⟩, H⟩
         ·rintro k2 r' w' ⟨y8_2, hm, hA, H⟩
          obtain ⟨r119, rfl⟩ := regen _ hA; clear hA
          obtain ⟨w120, rfl⟩ : ∃ W : World, W = w' := ⟨_, rfl⟩
          cases k2 with
          | zero => exact (none_some hm).elim
          | succ k2 =>
           have hm : m21_l2b K y5_1 rec1 el15 el32 (m21_l2 K y5_1 rec1 el15 el32 k2) y8_2 = some res := hm
           unfold m21_l2b at hm
           obtain ⟨rec2, hrec2⟩ : ∃ f, m21_l2 K y5_1 rec1 el15 el32 k2 = f := ⟨_, rfl⟩
           rw [hrec2] at hm
           refine W_seq ?_
           refine W_seq ?_
           refine W_region ?_
           refine RL_pure (by exact wn0 rfl) (by rfl) (by rfl) (x_move (v := .int .i64 y8_2) (by rfl)) ?_
           refine RL_pure (by exact wn0 rfl) (by rfl) (by rfl) (x_fieldAddr fo54_2 (by rfl)) ?_
           refine RL_pure (by exact wn0 rfl) (by rfl) (by rfl) (x_load (j := 2) (v := .slice A27 el15.Low.length cp28) sc23 (by rfl) (H.cells (i := 2) (by rfl)) (by rfl)) ?_
           refine RL_pure (by exact wn0 rfl) (by rfl) (by rfl) (x_len sl23 (by rfl)) ?_
           refine RL_pure (by exact wn0 rfl) (by rfl) (by rfl) (x_lss (by rfl) (by rfl)) ?_
           refine RL_nil ?_
           refine W_cond (by rfl) (fun hb => ?_) (fun hb => ?_)
           ·have hm := cond_t hb hm
            refine W_skip ?_
            refine W_seq ?_
            refine W_block ?_
            refine W_seq ?_
            refine W_draw [.free 0, .take 1, .free 2, .free 3, .take 4, .free 5, .take 6, .free 7, .free 8, .take 9, .free 10] (fun wS => Sep ok w wS [.blk b9 28 [.slice A1 a0.Levels.length cp2], .blk b11 28 [.slice A5 a1.Levels.length cp6], .blk b49 54 [.int .i64 el15.W, .int .i64 el15.H, .slice A27 el15.Low.length cp28], .blk b51 54 [.int .i64 el32.W, .int .i64 el32.H, .slice A44 el32.Low.length cp45]] [RE.rd k_Level A1 cp2 a0.Levels, RE.rd k_Level A5 cp6 a1.Levels, RE.cells g20 (o21 + (y5_1).toNat * 3) [.int .i64 el15.W, .int .i64 el15.H, .slice A27 el15.Low.length cp28], RE.rd kInt A27 cp28 el15.Low, RE.cells g37 (o38 + (y5_1).toNat * 3) [.int .i64 el32.W, .int .i64 el32.H, .slice A44 el32.Low.length cp45], RE.rd kInt A44 cp45 el32.Low]) [] [0, 2, 3, 5, 7, 8, 10] mixed0 (by kernel_rfl) (by kernel_rfl) (by kernel_rfl) (by rfl) (by exact H.drew) ?_
            obtain ⟨w121, hW⟩ : ∃ W : World, W = { w120 with drawn := w120.drawn + 1 } := ⟨_, rfl⟩
            rw [← hW]
            have H : Sep ok w w121 [.blk b9 28 [.slice A1 a0.Levels.length cp2], .blk b11 28 [.slice A5 a1.Levels.length cp6], .blk b49 54 [.int .i64 el15.W, .int .i64 el15.H, .slice A27 el15.Low.length cp28], .blk b51 54 [.int .i64 el32.W, .int .i64 el32.H, .slice A44 el32.Low.length cp45]] [RE.rd k_Level A1 cp2 a0.Levels, RE.rd k_Level A5 cp6 a1.Levels, RE.cells g20 (o21 + (y5_1).toNat * 3) [.int .i64 el15.W, .int .i64 el15.H, .slice A27 el15.Low.length cp28], RE.rd kInt A27 cp28 el15.Low, RE.cells g37 (o38 + (y5_1).toNat * 3) [.int .i64 el32.W, .int .i64 el32.H, .slice A44 el32.Low.length cp45], RE.rd kInt A44 cp45 el32.Low] := by rw [hW]; exact H.drew
            clear hW
            refine PR_free (by rfl) (by rfl) (by rfl) (by exact wn0 rfl) (fun wS => (x_fieldAddr fo54_2 (by rfl))) ?_
            refine PR_take (by rfl) (by rfl) (by rfl) (by exact wn0 rfl) (fun wS (H : Sep ok w wS [.blk b9 28 [.slice A1 a0.Levels.length cp2], .blk b11 28 [.slice A5 a1.Levels.length cp6], .blk b49 54 [.int .i64 el15.W, .int .i64 el15.H, .slice A27 el15.Low.length cp28], .blk b51 54 [.int .i64 el32.W, .int .i64 el32.H, .slice A44 el32.Low.length cp45]] [RE.rd k_Level A1 cp2 a0.Levels, RE.rd k_Level A5 cp6 a1.Levels, RE.cells g20 (o21 + (y5_1).toNat * 3) [.int .i64 el15.W, .int .i64 el15.H, .slice A27 el15.Low.length cp28], RE.rd kInt A27 cp28 el15.Low, RE.cells g37 (o38 + (y5_1).toNat * 3) [.int .i64 el32.W, .int .i64 el32.H, .slice A44 el32.Low.length cp45], RE.rd kInt A44 cp45 el32.Low]) => (x_load (j := 2) (v := .slice A27 el15.Low.length cp28) sc23 (by rfl) (H.cells (i := 2) (by rfl)) (by rfl))) ?_
            refine PR_free (by rfl) (by rfl) (by rfl) (by exact wn0 rfl) (fun wS => (x_move (v := .int .i64 y8_2) (by rfl))) ?_
            obtain ⟨el122, h123, h124, he125, hm⟩ := idx_some hm
            obtain ⟨g127, o128, hA126⟩ := (H.rd (i := 3) (by rfl)).addr he125
            refine PR_free (by rfl) (by rfl) (by rfl) (by exact wn0 rfl) (fun wS => (x_indexAddr sl23 sz3 (by rfl) (by rfl) hA126 h123 h124)) ?_
            refine PR_take (by rfl) (by rfl) (by rfl) (by exact wn0 rfl) (fun wS (H : Sep ok w wS [.blk b9 28 [.slice A1 a0.Levels.length cp2], .blk b11 28 [.slice A5 a1.Levels.length cp6], .blk b49 54 [.int .i64 el15.W, .int .i64 el15.H, .slice A27 el15.Low.length cp28], .blk b51 54 [.int .i64 el32.W, .int .i64 el32.H, .slice A44 el32.Low.length cp45]] [RE.rd k_Level A1 cp2 a0.Levels, RE.rd k_Level A5 cp6 a1.Levels, RE.cells g20 (o21 + (y5_1).toNat * 3) [.int .i64 el15.W, .int .i64 el15.H, .slice A27 el15.Low.length cp28], RE.rd kInt A27 cp28 el15.Low, RE.cells g37 (o38 + (y5_1).toNat * 3) [.int .i64 el32.W, .int .i64 el32.H, .slice A44 el32.Low.length cp45], RE.rd kInt A44 cp45 el32.Low]) => (x_load (j := 0) (v := .int .i64 el122) sc3 (by rfl) (Rd.flatAt (n := 1) (H.rd (i := 3) (by rfl)) hA126 he125) (by rfl))) ?_
            refine PR_free (by rfl) (by rfl) (by rfl) (by exact wn0 rfl) (fun wS => (x_fieldAddr fo54_2 (by rfl))) ?_
            refine PR_take (by rfl) (by rfl) (by rfl) (by exact wn0 rfl) (fun wS (H : Sep ok w wS [.blk b9 28 [.slice A1 a0.Levels.length cp2], .blk b11 28 [.slice A5 a1.Levels.length cp6], .blk b49 54 [.int .i64 el15.W, .int .i64 el15.H, .slice A27 el15.Low.length cp28], .blk b51 54 [.int .i64 el32.W, .int .i64 el32.H, .slice A44 el32.Low.length cp45]] [RE.rd k_Level A1 cp2 a0.Levels, RE.rd k_Level A5 cp6 a1.Levels, RE.cells g20 (o21 + (y5_1).toNat * 3) [.int .i64 el15.W, .int .i64 el15.H, .slice A27 el15.Low.length cp28], RE.rd kInt A27 cp28 el15.Low, RE.cells g37 (o38 + (y5_1).toNat * 3) [.int .i64 el32.W, .int .i64 el32.H, .slice A44 el32.Low.length cp45], RE.rd kInt A44 cp45 el32.Low]) => (x_load (j := 2) (v := .slice A44 el32.Low.length cp45) sc23 (by rfl) (H.cells (i := 3) (by rfl)) (by rfl))) ?_
            refine PR_free (by rfl) (by rfl) (by rfl) (by exact wn0 rfl) (fun wS => (x_move (v := .int .i64 y8_2) (by rfl))) ?_
            obtain ⟨el129, h130, h131, he132, hm⟩ := idx_some hm
            obtain ⟨g134, o135, hA133⟩ := (H.rd (i := 5) (by rfl)).addr he132
            refine PR_free (by rfl) (by rfl) (by rfl) (by exact wn0 rfl) (fun wS => (x_indexAddr sl23 sz3 (by rfl) (by rfl) hA133 h130 h131)) ?_
            refine PR_take (by rfl) (by rfl) (by rfl) (by exact wn0 rfl) (fun wS (H : Sep ok w wS [.blk b9 28 [.slice A1 a0.Levels.length cp2], .blk b11 28 [.slice A5 a1.Levels.length cp6], .blk b49 54 [.int .i64 el15.W, .int .i64 el15.H, .slice A27 el15.Low.length cp28], .blk b51 54 [.int .i64 el32.W, .int .i64 el32.H, .slice A44 el32.Low.length cp45]] [RE.rd k_Level A1 cp2 a0.Levels, RE.rd k_Level A5 cp6 a1.Levels, RE.cells g20 (o21 + (y5_1).toNat * 3) [.int .i64 el15.W, .int .i64 el15.H, .slice A27 el15.Low.length cp28], RE.rd kInt A27 cp28 el15.Low, RE.cells g37 (o38 + (y5_1).toNat * 3) [.int .i64 el32.W, .int .i64 el32.H, .slice A44 el32.Low.length cp45], RE.rd kInt A44 cp45 el32.Low]) => (x_load (j := 0) (v := .int .i64 el129) sc3 (by rfl) (Rd.flatAt (n := 1) (H.rd (i := 5) (by rfl)) hA133 he132) (by rfl))) ?_
            refine PR_free (by rfl) (by rfl) (by rfl) (by exact wn0 rfl) (fun wS => (x_neq (by rfl) (by rfl))) ?_
            refine PR_nil ?_
            refine W_cond (by rfl) (fun hb => ?_) (fun hb => ?_)
            ·have hm := cond_t hb hm
             refine W_seq ?_
             refine W_region ?_
             refine RL_pure (by exact wn0 rfl) (by rfl) (by rfl) (x_assign (v := .bool false) (by rfl)) ?_
             refine RL_nil ?_
             refine W_ret ?_
             obtain rfl := Option.some.inj hm
             exact ⟨[.bool false], (.tmp (by rfl) rfl), rfl, H.none_⟩
            ·have hm := cond_f hb hm
             refine W_skip ?_
             refine W_region ?_
             refine RL_pure (by exact wn0 rfl) (by rfl) (by rfl) (x_move (v := .int .i64 y8_2) (by rfl)) ?_
             obtain ⟨x136, ex136, qx136, ux136, hm⟩ := ck_some hm
             refine RL_pure (by exact wn0 rfl) (by rfl) (by rfl) (x_add (by rfl) (by rfl) ux136) ?_
             refine RL_pure (by exact wn0 rfl) (by rfl) (by rfl) (x_assign (v := .int .i64 x136) (by rfl)) ?_
             refine RL_nil ?_
             subst hrec2
             exact ⟨k2, Nat.lt_succ_self k2, x136, hm, ⟨rfl, rfl, rfl, rfl, rfl, rfl, trivial⟩, H⟩
           ·have hm := cond_f hb hm
            refine W_exit ?_
            refine W_region ?_
            refine RL_pure (by exact wn0 rfl) (by rfl) (by rfl) (x_move (v := .int .i64 y5_1) (by rfl)) ?_
            obtain ⟨x137, ex137, qx137, ux137, hm⟩ := ck_some hm
            refine RL_pure (by exact wn0 rfl) (by rfl) (by rfl) (x_add (by rfl) (by rfl) ux137) ?_
            refine RL_pure (by exact wn0 rfl) (by rfl) (by rfl) (x_assign (v := .int .i64 x137) (by rfl)) ?_
            refine RL_nil ?_
            subst hrec1
            exact ⟨k1, Nat.lt_succ_self k1, x137, hm, ⟨rfl, rfl, rfl, trivial⟩, ((H).takeL 2).pick [0, 1]⟩
    ·have hm := cond_f hb hm
     refine W_exit ?_
     refine W_seq ?_
     refine W_region ?_
     refine RL_pure (by exact wn0 rfl) (by rfl) (by rfl) (x_assign (v := .bool true) (by rfl)) ?_
     refine RL_nil ?_
     refine W_ret ?_
     obtain rfl := Option.some.inj hm
     exact ⟨[.bool true], (.tmp (by rfl) rfl), rfl, H.none_⟩
end Go.Proofs.YtobkigllalbkiaaV.M
