/- A plain Lean function that answers as the Go function does (none: not told), and the proof that a call answers so. Written by program. -/
import Derived.Test.YtobkigllalbkiaaVMTy
import Derived.Test.YtobkigllalbkiaaVMF11
import Derived.Test.YtobkigllalbkiaaVMF15
import Derived.Test.YtobkigllalbkiaaVMF17
import Derived.Test.YtobkigllalbkiaaVMF34
set_option linter.unusedVariables false
namespace Go.Proofs.YtobkigllalbkiaaV.M
open Go.RowKit Go.Proofs.YtobkigllalbkiaaV
def m5_l3b (K : Nat) (y8_1 : Int) (y9_1 : Int) (rec1 : Int → Int → Option (Bool)) (el41 : S_Level) (l_row82_2 : (List Int)) (rec3 : Int → Option (Bool)) (y14_3 : Int) : Option (Bool) :=
  (bif (decide (y14_3 < (l_row82_2.length : Int))) then (idx l_row82_2 y14_3 fun el126 => (ck (el126 + 70000) fun x133 => (idx el41.Low y14_3 fun el134 => (bif (x133 != el134) then some false else (ck (y14_3 + 1) fun x141 => (rec3 x141)))))) else (ck (2 * y8_1) fun x142 => (ck (y9_1 + 1) fun x143 => (rec1 x142 x143))))
def m5_l3 (K : Nat) (y8_1 : Int) (y9_1 : Int) (rec1 : Int → Int → Option (Bool)) (el41 : S_Level) (l_row82_2 : (List Int)) : Nat → Int → Option (Bool)
  | 0 => fun _ => none
  | k + 1 => m5_l3b K y8_1 y9_1 rec1 el41 l_row82_2 (m5_l3 K y8_1 y9_1 rec1 el41 l_row82_2 k)
def m5_l2b (K : Nat) (a0 : S_Frame) (y8_1 : Int) (y9_1 : Int) (rec1 : Int → Int → Option (Bool)) (el41 : S_Level) (rec2 : (List Int) → Int → Option (Bool)) (l_row82_2 : (List Int)) (y12_2 : Int) : Option (Bool) :=
  (bif (decide (y12_2 < (a0.Depth.length : Int))) then (nz a0.W (ck (Int.tdiv y12_2 a0.W) fun x87 => (nz y8_1 (ck (Int.tdiv x87 y8_1) fun x88 => (ck (x88 * el41.W) fun x89 => (nz a0.W (nz y8_1 (ck (Int.tdiv (Int.tmod y12_2 a0.W) y8_1) fun x91 => (ck (x89 + x91) fun x92 => (bif (decide ((l_row82_2.length : Int) ≤ x92)) then some false else (idx l_row82_2 x92 fun el94 => (idx a0.Depth y12_2 fun el101 => (ck (el101 - 70000) fun x108 => (idx l_row82_2 x92 fun el109 => (lete (l_row82_2.set ((x92).toNat) (mn el94 x108)) fun l118 => (ck (y12_2 + 1) fun x122 => (rec2 l118 x122))))))))))))))))) else m5_l3 K y8_1 y9_1 rec1 el41 l_row82_2 K 0)
def m5_l2 (K : Nat) (a0 : S_Frame) (y8_1 : Int) (y9_1 : Int) (rec1 : Int → Int → Option (Bool)) (el41 : S_Level) : Nat → (List Int) → Int → Option (Bool)
  | 0 => fun _ _ => none
  | k + 1 => m5_l2b K a0 y8_1 y9_1 rec1 el41 (m5_l2 K a0 y8_1 y9_1 rec1 el41 k)
def m5_l4b (K : Nat) (a0 : S_Frame) (a1 : S_Rect) (v22 : Bool) (v145 : Int × Int) (rec4 : Int → Int → Option (Bool)) (y17_4 : Int) (y18_4 : Int) : Option (Bool) :=
  (bif (decide (y18_4 < (a0.Depth.length : Int))) then (nz a0.W ((bif (decide (a1.X0 ≤ (Int.tmod y18_4 a0.W))) then (nz a0.W (some (decide ((Int.tmod y18_4 a0.W) ≤ a1.X1)))) else some false).bind fun b154 => ((bif b154 then (nz a0.W (ck (Int.tdiv y18_4 a0.W) fun x159 => some (decide (a1.Y0 ≤ x159)))) else some false).bind fun b158 => ((bif b158 then (nz a0.W (ck (Int.tdiv y18_4 a0.W) fun x163 => some (decide (x163 ≤ a1.Y1)))) else some false).bind fun b162 => (bif b162 then (idx a0.Depth y18_4 fun el166 => (ck (y18_4 + 1) fun x173 => (rec4 (mn y17_4 el166) x173))) else (ck (y18_4 + 1) fun x174 => (rec4 y17_4 x174))))))) else ((bif v22 then some (v145.1 == y17_4) else some false).bind fun b175 => some b175))
def m5_l4 (K : Nat) (a0 : S_Frame) (a1 : S_Rect) (v22 : Bool) (v145 : Int × Int) : Nat → Int → Int → Option (Bool)
  | 0 => fun _ _ => none
  | k + 1 => m5_l4b K a0 a1 v22 v145 (m5_l4 K a0 a1 v22 v145 k)
def m5_l1b (K : Nat) (a0 : S_Frame) (a1 : S_Rect) (v22 : Bool) (v28 : S_Pyramid × Int) (rec1 : Int → Int → Option (Bool)) (y8_1 : Int) (y9_1 : Int) : Option (Bool) :=
  (bif (decide (y9_1 < (v28.1.Levels.length : Int))) then (idx v28.1.Levels y9_1 fun el41 => ((bif (decide (el41.W < 1)) then some true else some (decide (el41.H < 1))).bind fun b61 => ((bif b61 then some true else (ck (el41.W * el41.H) fun x65 => some ((el41.Low.length : Int) != x65))).bind fun b64 => ((bif b64 then some true else ((bif (el41.W == 1) then some (el41.H == 1) else some false).bind fun b69 => (ck ((v28.1.Levels.length : Int) - 1) fun x72 => some (!(b69 == (y9_1 == x72)))))).bind fun b68 => (bif b68 then some false else (mks 8 (el41.Low.length : Int) 0 fun l78 => m5_l2 K a0 y8_1 y9_1 rec1 el41 K l78 0)))))) else ((m17 K v28.1 a1).bind fun v145 => (bif (v145.2 != 0) then ((bif v22 then some (v145.1 == 0) else some false).bind fun b147 => some b147) else m5_l4 K a0 a1 v22 v145 K 1048576 0)))
def m5_l1 (K : Nat) (a0 : S_Frame) (a1 : S_Rect) (v22 : Bool) (v28 : S_Pyramid × Int) : Nat → Int → Int → Option (Bool)
  | 0 => fun _ _ => none
  | k + 1 => m5_l1b K a0 a1 v22 v28 (m5_l1 K a0 a1 v22 v28 k)
/-- diorama/dioramalaw27.PyramidLeast -/
def m5 (K : Nat) (a0 : S_Frame) (a1 : S_Rect) : Option (Bool) :=
  ((m34 K ).bind fun v22 => (bif (!v22) then some false else ((m11 K a0).bind fun v25 => (bif v25 then some v22 else ((m15 K a0).bind fun v28 => (bif (v28.2 != 0) then ((bif v22 then some ((v28.1.Levels.length : Int) == 0) else some false).bind fun b36 => some b36) else m5_l1 K a0 a1 v22 v28 K 1 0))))))
set_option maxRecDepth 100000 in
set_option maxHeartbeats 4000000 in
theorem c5 (ok : Nat → Prop) (K : Nat) (w : World) (a0 : S_Frame) (A1 : Option Addr) (cp2 : Nat) (A5 : Option Addr) (cp6 : Nat) (A9 : Option Addr) (cp10 : Nat) (A13 : Option Addr) (cp14 : Nat) (a1 : S_Rect) (hR3 : Rd k_Ar4_Int w ok A1 cp2 a0.Color) (hR7 : Rd kInt w ok A5 cp6 a0.Depth) (hR11 : Rd kInt w ok A9 cp10 a0.Item) (hR15 : Rd kInt w ok A13 cp14 a0.Tri) (res : Bool) (hm : m5 K a0 a1 = some res) :
    Calls Try.prog 5 #[.agg #[.int .i64 a0.W, .int .i64 a0.H, .slice A1 a0.Color.length cp2, .slice A5 a0.Depth.length cp6, .slice A9 a0.Item.length cp10, .slice A13 a0.Tri.length cp14], .agg #[.int .i64 a1.X0, .int .i64 a1.Y0, .int .i64 a1.X1, .int .i64 a1.Y1]] w (fun e w' => e = .returned (tup [.bool res]) ∧ Sep ok w w' [] []) := by
  refine calls_W (args := [.agg #[.int .i64 a0.W, .int .i64 a0.H, .slice A1 a0.Color.length cp2, .slice A5 a0.Depth.length cp6, .slice A9 a0.Item.length cp10, .slice A13 a0.Tri.length cp14], .agg #[.int .i64 a1.X0, .int .i64 a1.Y0, .int .i64 a1.X1, .int .i64 a1.Y1]]) Try.func5 rfl Try.ntmps5 Try.results5 rfl fun r hr => ?_
  obtain ⟨r1, rfl⟩ := regen (r := r) [(0, .agg #[.int .i64 a0.W, .int .i64 a0.H, .slice A1 a0.Color.length cp2, .slice A5 a0.Depth.length cp6, .slice A9 a0.Item.length cp10, .slice A13 a0.Tri.length cp14]), (1, .agg #[.int .i64 a1.X0, .int .i64 a1.Y0, .int .i64 a1.X1, .int .i64 a1.Y1])] ⟨hr 0 _ rfl, hr 1 _ rfl, trivial⟩
  have H : Sep ok w w [] [RE.rd k_Ar4_Int A1 cp2 a0.Color, RE.rd kInt A5 cp6 a0.Depth, RE.rd kInt A9 cp10 a0.Item, RE.rd kInt A13 cp14 a0.Tri] := Sep.arg (Sep.arg (Sep.arg (Sep.arg (Sep.start ok w) (re := RE.rd k_Ar4_Int A1 cp2 a0.Color) rfl rfl hR3) (re := RE.rd kInt A5 cp6 a0.Depth) rfl rfl hR7) (re := RE.rd kInt A9 cp10 a0.Item) rfl rfl hR11) (re := RE.rd kInt A13 cp14 a0.Tri) rfl rfl hR15
  unfold m5 at hm
  refine W_seq ?_
  refine W_region ?_
  refine RL_cons (O_box (by exact wn0 rfl) (by rfl) (by rfl) (by rfl) H (fun w18 b17 (H : Sep ok w w18 [.blk b17 25 [.int .i64 a0.W, .int .i64 a0.H, .slice A1 a0.Color.length cp2, .slice A5 a0.Depth.length cp6, .slice A9 a0.Item.length cp10, .slice A13 a0.Tri.length cp14]] [RE.rd k_Ar4_Int A1 cp2 a0.Color, RE.rd kInt A5 cp6 a0.Depth, RE.rd kInt A9 cp10 a0.Item, RE.rd kInt A13 cp14 a0.Tri]) => ?_))
  refine RL_cons (O_box (by exact wn0 rfl) (by rfl) (by rfl) (by rfl) H (fun w20 b19 (H : Sep ok w w20 [.blk b17 25 [.int .i64 a0.W, .int .i64 a0.H, .slice A1 a0.Color.length cp2, .slice A5 a0.Depth.length cp6, .slice A9 a0.Item.length cp10, .slice A13 a0.Tri.length cp14], .blk b19 30 [.int .i64 a1.X0, .int .i64 a1.Y0, .int .i64 a1.X1, .int .i64 a1.Y1]] [RE.rd k_Ar4_Int A1 cp2 a0.Color, RE.rd kInt A5 cp6 a0.Depth, RE.rd kInt A9 cp10 a0.Item, RE.rd kInt A13 cp14 a0.Tri]) => ?_))
  refine RL_pure (by exact wn0 rfl) (by rfl) (by rfl) (x_assign (v := .bool false) (by rfl)) ?_
  refine RL_nil ?_
  refine W_seq ?_
  refine W_region ?_
  obtain ⟨v22, hv21, hm⟩ := bind_some hm
  refine RL_cons (O_call (by exact wn0 rfl) (by rfl) (by rfl) (x_callL (by rfl) (args := []) (by rfl) (cf34 _ _)) (c34 (fun _ => True) K w20   v22 hv21) ?_)
  rintro e w23 ⟨rfl, H2⟩
  have H : Sep ok w w23 [.blk b17 25 [.int .i64 a0.W, .int .i64 a0.H, .slice A1 a0.Color.length cp2, .slice A5 a0.Depth.length cp6, .slice A9 a0.Item.length cp10, .slice A13 a0.Tri.length cp14], .blk b19 30 [.int .i64 a1.X0, .int .i64 a1.Y0, .int .i64 a1.X1, .int .i64 a1.Y1]] [RE.rd k_Ar4_Int A1 cp2 a0.Color, RE.rd kInt A5 cp6 a0.Depth, RE.rd kInt A9 cp10 a0.Item, RE.rd kInt A13 cp14 a0.Tri] := H.below H2.base
  clear H2
  refine ⟨_, rfl, ?_⟩
  show RL _ _ _ _ _ _ _
  refine RL_pure (by exact wn0 rfl) (by rfl) (by rfl) (x_assign (v := .bool v22) (by rfl)) ?_
  refine RL_nil ?_
  refine W_seq ?_
  refine W_seq ?_
  refine W_region ?_
  refine RL_pure (by exact wn0 rfl) (by rfl) (by rfl) (x_move (v := .bool v22) (by rfl)) ?_
  refine RL_pure (by exact wn0 rfl) (by rfl) (by rfl) (x_not (by rfl)) ?_
  refine RL_nil ?_
  refine W_cond (by rfl) (fun hb => ?_) (fun hb => ?_)
  · have hm := cond_t hb hm
    refine W_seq ?_
    refine W_region ?_
    refine RL_pure (by exact wn0 rfl) (by rfl) (by rfl) (x_assign (v := .bool false) (by rfl)) ?_
    refine RL_nil ?_
    refine W_ret ?_
    obtain rfl := Option.some.inj hm
    exact ⟨[.bool false], (.tmp (by rfl) rfl), rfl, H.none_⟩
  · have hm := cond_f hb hm
    refine W_skip ?_
    refine W_seq ?_
    refine W_seq ?_
    refine W_region ?_
    refine RL_pure (by exact wn0 rfl) (by rfl) (by rfl) (x_loadA (j := 0) (vs := [.int .i64 a0.W, .int .i64 a0.H, .slice A1 a0.Color.length cp2, .slice A5 a0.Depth.length cp6, .slice A9 a0.Item.length cp10, .slice A13 a0.Tri.length cp14]) ag25 (by rfl) (H.cells (i := 0) (by rfl)) (by rfl) (by rfl)) ?_
    obtain ⟨v25, hv24, hm⟩ := bind_some hm
    refine RL_cons (O_call (by exact wn0 rfl) (by rfl) (by rfl) (x_callL (by rfl) (args := [.agg #[.int .i64 a0.W, .int .i64 a0.H, .slice A1 a0.Color.length cp2, .slice A5 a0.Depth.length cp6, .slice A9 a0.Item.length cp10, .slice A13 a0.Tri.length cp14]]) (by rfl) (cf11 _ _)) (c11 (fun _ => True) K w23 a0 A1 cp2 A5 cp6 A9 cp10 A13 cp14 (H.rd (i := 0) (by rfl)).any (H.rd (i := 1) (by rfl)).any (H.rd (i := 2) (by rfl)).any (H.rd (i := 3) (by rfl)).any v25 hv24) ?_)
    rintro e w26 ⟨rfl, H2⟩
    have H : Sep ok w w26 [.blk b17 25 [.int .i64 a0.W, .int .i64 a0.H, .slice A1 a0.Color.length cp2, .slice A5 a0.Depth.length cp6, .slice A9 a0.Item.length cp10, .slice A13 a0.Tri.length cp14], .blk b19 30 [.int .i64 a1.X0, .int .i64 a1.Y0, .int .i64 a1.X1, .int .i64 a1.Y1]] [RE.rd k_Ar4_Int A1 cp2 a0.Color, RE.rd kInt A5 cp6 a0.Depth, RE.rd kInt A9 cp10 a0.Item, RE.rd kInt A13 cp14 a0.Tri] := H.below H2.base
    clear H2
    refine ⟨_, rfl, ?_⟩
    show RL _ _ _ _ _ _ _
    refine RL_nil ?_
    refine W_cond (by rfl) (fun hb => ?_) (fun hb => ?_)
    · have hm := cond_t hb hm
      refine W_seq ?_
      refine W_region ?_
      refine RL_pure (by exact wn0 rfl) (by rfl) (by rfl) (x_move (v := .bool v22) (by rfl)) ?_
      refine RL_pure (by exact wn0 rfl) (by rfl) (by rfl) (x_assign (v := .bool v22) (by rfl)) ?_
      refine RL_nil ?_
      refine W_ret ?_
      obtain rfl := Option.some.inj hm
      exact ⟨[.bool v22], (.tmp (by rfl) rfl), rfl, H.none_⟩
    · have hm := cond_f hb hm
      refine W_skip ?_
      refine W_seq ?_
      refine W_region ?_
      refine RL_pure (by exact wn0 rfl) (by rfl) (by rfl) (x_loadA (j := 0) (vs := [.int .i64 a0.W, .int .i64 a0.H, .slice A1 a0.Color.length cp2, .slice A5 a0.Depth.length cp6, .slice A9 a0.Item.length cp10, .slice A13 a0.Tri.length cp14]) ag25 (by rfl) (H.cells (i := 0) (by rfl)) (by rfl) (by rfl)) ?_
      obtain ⟨v28, hv27, hm⟩ := bind_some hm
      refine RL_cons (O_call (by exact wn0 rfl) (by rfl) (by rfl) (x_callL (by rfl) (args := [.agg #[.int .i64 a0.W, .int .i64 a0.H, .slice A1 a0.Color.length cp2, .slice A5 a0.Depth.length cp6, .slice A9 a0.Item.length cp10, .slice A13 a0.Tri.length cp14]]) (by rfl) (cf15 _ _)) (c15 (okS ok w [.blk b17 25 [.int .i64 a0.W, .int .i64 a0.H, .slice A1 a0.Color.length cp2, .slice A5 a0.Depth.length cp6, .slice A9 a0.Item.length cp10, .slice A13 a0.Tri.length cp14], .blk b19 30 [.int .i64 a1.X0, .int .i64 a1.Y0, .int .i64 a1.X1, .int .i64 a1.Y1]]) K w26 a0 A1 cp2 A5 cp6 A9 cp10 A13 cp14 (H.rd (i := 0) (by rfl)) (H.rd (i := 1) (by rfl)) (H.rd (i := 2) (by rfl)) (H.rd (i := 3) (by rfl)) v28 hv27) ?_)
      rintro e w29 ⟨A30, cp31, rfl, H2⟩
      have H : Sep ok w w29 [.blk b17 25 [.int .i64 a0.W, .int .i64 a0.H, .slice A1 a0.Color.length cp2, .slice A5 a0.Depth.length cp6, .slice A9 a0.Item.length cp10, .slice A13 a0.Tri.length cp14], .blk b19 30 [.int .i64 a1.X0, .int .i64 a1.Y0, .int .i64 a1.X1, .int .i64 a1.Y1]] [RE.rd k_Ar4_Int A1 cp2 a0.Color, RE.rd kInt A5 cp6 a0.Depth, RE.rd kInt A9 cp10 a0.Item, RE.rd kInt A13 cp14 a0.Tri, RE.rd k_Level A30 cp31 v28.1.Levels] := H.call H2
      clear H2
      refine ⟨_, rfl, ?_⟩
      show RL _ _ _ _ _ _ _
      refine RL_pure (by exact wn0 rfl) (by rfl) (by rfl) (x_move (v := tup [.agg #[.slice A30 v28.1.Levels.length cp31], .int .i64 v28.2]) (by rfl)) ?_
      refine RL_pure (by exact wn0 rfl) (by rfl) (by rfl) (x_extract (v := .agg #[.slice A30 v28.1.Levels.length cp31]) (by rfl) (by rfl)) ?_
      refine RL_pure (by exact wn0 rfl) (by rfl) (by rfl) (x_extract (v := .int .i64 v28.2) (by rfl) (by rfl)) ?_
      refine RL_cons (O_alloc (by exact wn0 rfl) (by rfl) ze28 (by rfl) H (fun w34 b33 (H : Sep ok w w34 [.blk b17 25 [.int .i64 a0.W, .int .i64 a0.H, .slice A1 a0.Color.length cp2, .slice A5 a0.Depth.length cp6, .slice A9 a0.Item.length cp10, .slice A13 a0.Tri.length cp14], .blk b19 30 [.int .i64 a1.X0, .int .i64 a1.Y0, .int .i64 a1.X1, .int .i64 a1.Y1], .blk b33 28 [.slice none 0 0]] [RE.rd k_Ar4_Int A1 cp2 a0.Color, RE.rd kInt A5 cp6 a0.Depth, RE.rd kInt A9 cp10 a0.Item, RE.rd kInt A13 cp14 a0.Tri, RE.rd k_Level A30 cp31 v28.1.Levels]) => ?_))
      refine RL_cons (O_store (i := 2) (off := 0) (by exact wn0 rfl) (by rfl) (by rfl) H (by rfl) (vs := [.slice A30 v28.1.Levels.length cp31]) (by rfl) sz28 (by rfl) (by rfl) (by rfl) (fun w35 (H : Sep ok w w35 [.blk b17 25 [.int .i64 a0.W, .int .i64 a0.H, .slice A1 a0.Color.length cp2, .slice A5 a0.Depth.length cp6, .slice A9 a0.Item.length cp10, .slice A13 a0.Tri.length cp14], .blk b19 30 [.int .i64 a1.X0, .int .i64 a1.Y0, .int .i64 a1.X1, .int .i64 a1.Y1], .blk b33 28 [.slice A30 v28.1.Levels.length cp31]] [RE.rd k_Ar4_Int A1 cp2 a0.Color, RE.rd kInt A5 cp6 a0.Depth, RE.rd kInt A9 cp10 a0.Item, RE.rd kInt A13 cp14 a0.Tri, RE.rd k_Level A30 cp31 v28.1.Levels]) => ?_))
      refine RL_pure (by exact wn0 rfl) (by rfl) (by rfl) (x_assign (v := .int .i64 v28.2) (by rfl)) ?_
      refine RL_nil ?_
      refine W_seq ?_
      refine W_seq ?_
      refine W_region ?_
      refine RL_pure (by exact wn0 rfl) (by rfl) (by rfl) (x_move (v := .int .i64 v28.2) (by rfl)) ?_
      refine RL_pure (by exact wn0 rfl) (by rfl) (by rfl) (x_neq (by rfl) (by rfl)) ?_
      refine RL_nil ?_
      refine W_cond (by rfl) (fun hb => ?_) (fun hb => ?_)
      · have hm := cond_t hb hm
        refine W_seq ?_
        refine W_region ?_
        refine RL_pure (by exact wn0 rfl) (by rfl) (by rfl) (x_move (v := .bool v22) (by rfl)) ?_
        refine RL_pure (by exact wn0 rfl) (by rfl) (by rfl) (x_move (v := .bool v22) (by rfl)) ?_
        obtain ⟨b36, hmS, hm⟩ := bind_some hm
        refine RL_cut 5 (fun r' w' => Agr [(38, .bool b36)] r' ∧ Sep ok w w' [.blk b17 25 [.int .i64 a0.W, .int .i64 a0.H, .slice A1 a0.Color.length cp2, .slice A5 a0.Depth.length cp6, .slice A9 a0.Item.length cp10, .slice A13 a0.Tri.length cp14], .blk b19 30 [.int .i64 a1.X0, .int .i64 a1.Y0, .int .i64 a1.X1, .int .i64 a1.Y1], .blk b33 28 [.slice A30 v28.1.Levels.length cp31]] [RE.rd k_Ar4_Int A1 cp2 a0.Color, RE.rd kInt A5 cp6 a0.Depth, RE.rd kInt A9 cp10 a0.Item, RE.rd kInt A13 cp14 a0.Tri, RE.rd k_Level A30 cp31 v28.1.Levels]) ?_ ?_
        · cases hbS : v22
          · have hm := cond_f hbS hmS
            refine RL_cons (OpR_off (by exact wn2 rfl rfl rfl rfl) (by rfl) (by rfl) ?_)
            refine RL_cons (OpR_off (by exact wn2 rfl rfl rfl rfl) (by rfl) (by rfl) ?_)
            refine RL_cons (OpR_off (by exact wn2 rfl rfl rfl rfl) (by rfl) (by rfl) ?_)
            refine RL_cons (OpR_off (by exact wn2 rfl rfl rfl rfl) (by rfl) (by rfl) ?_)
            refine RL_pure (by exact wn0 rfl) (by rfl) (by rfl) (x_pick_f (v := .bool false) (by rfl) (by rfl)) ?_
            refine RL_nil ?_
            exact ⟨⟨congrArg Value.bool (Option.some.inj hm), trivial⟩, H⟩
          · have hm := cond_t hbS hmS
            refine RL_pure (by exact wn1 rfl rfl rfl rfl) (by rfl) (by rfl) (x_fieldAddr fo28_0 (by rfl)) ?_
            refine RL_pure (by exact wn1 rfl rfl rfl rfl) (by rfl) (by rfl) (x_load (j := 0) (v := .slice A30 v28.1.Levels.length cp31) sc26 (by rfl) (H.cells (i := 2) (by rfl)) (by rfl)) ?_
            refine RL_pure (by exact wn1 rfl rfl rfl rfl) (by rfl) (by rfl) (x_len sl26 (by rfl)) ?_
            refine RL_pure (by exact wn1 rfl rfl rfl rfl) (by rfl) (by rfl) (x_eql (by rfl) (by rfl)) ?_
            refine RL_pure (by exact wn0 rfl) (by rfl) (by rfl) (x_pick_t (v := .bool ((v28.1.Levels.length : Int) == 0)) (by rfl) (by rfl)) ?_
            refine RL_nil ?_
            exact ⟨⟨congrArg Value.bool (Option.some.inj hm), trivial⟩, H⟩
        · rintro r' w' ⟨hA, H⟩
          obtain ⟨r37, rfl⟩ := regen _ hA; clear hA
          obtain ⟨w38, rfl⟩ : ∃ W : World, W = w' := ⟨_, rfl⟩
          show RL _ _ _ _ _ _ _
          refine RL_pure (by exact wn0 rfl) (by rfl) (by rfl) (x_assign (v := .bool b36) (by rfl)) ?_
          refine RL_nil ?_
          refine W_ret ?_
          obtain rfl := Option.some.inj hm
          exact ⟨[.bool b36], (.tmp (by rfl) rfl), rfl, H.none_⟩
      · have hm := cond_f hb hm
        refine W_skip ?_
        refine W_seq ?_
        refine W_region ?_
        refine RL_pure (by exact wn0 rfl) (by rfl) (by rfl) (x_assign (v := .int .i64 1) (by rfl)) ?_
        refine RL_nil ?_
        refine W_seq ?_
        refine W_seq ?_
        refine W_region ?_
        refine RL_pure (by exact wn0 rfl) (by rfl) (by rfl) (x_assign (v := .int .i64 0) (by rfl)) ?_
        refine RL_nil ?_
        refine W_block ?_
        refine W_loop (fun k1 r' w' => ∃ (y8_1 : Int), ∃ (y9_1 : Int), m5_l1 K a0 a1 v22 v28 k1 y8_1 y9_1 = some res ∧ Agr [(2, .pointer (some ⟨b17, 0, none⟩)), (3, .pointer (some ⟨b19, 0, none⟩)), (5, .bool v22), (6, .pointer (some ⟨b33, 0, none⟩)), (8, .int .i64 y8_1), (9, .int .i64 y9_1)] r' ∧ Sep ok w w' [.blk b17 25 [.int .i64 a0.W, .int .i64 a0.H, .slice A1 a0.Color.length cp2, .slice A5 a0.Depth.length cp6, .slice A9 a0.Item.length cp10, .slice A13 a0.Tri.length cp14], .blk b19 30 [.int .i64 a1.X0, .int .i64 a1.Y0, .int .i64 a1.X1, .int .i64 a1.Y1], .blk b33 28 [.slice A30 v28.1.Levels.length cp31]] [RE.rd k_Ar4_Int A1 cp2 a0.Color, RE.rd kInt A5 cp6 a0.Depth, RE.rd kInt A9 cp10 a0.Item, RE.rd kInt A13 cp14 a0.Tri, RE.rd k_Level A30 cp31 v28.1.Levels]) K ?_ ?_
        · exact ⟨1, 0, hm, ⟨rfl, rfl, rfl, rfl, rfl, rfl, trivial⟩, H⟩
        · rintro k1 r' w' ⟨y8_1, y9_1, hm, hA, H⟩
          obtain ⟨r39, rfl⟩ := regen _ hA; clear hA
          obtain ⟨w40, rfl⟩ : ∃ W : World, W = w' := ⟨_, rfl⟩
          cases k1 with
          | zero => exact (none_some hm).elim
          | succ k1 =>
            have hm : m5_l1b K a0 a1 v22 v28 (m5_l1 K a0 a1 v22 v28 k1) y8_1 y9_1 = some res := hm
            unfold m5_l1b at hm
            obtain ⟨rec1, hrec1⟩ : ∃ f, m5_l1 K a0 a1 v22 v28 k1 = f := ⟨_, rfl⟩
            rw [hrec1] at hm
            refine W_seq ?_
            refine W_seq ?_
            refine W_region ?_
            refine RL_pure (by exact wn0 rfl) (by rfl) (by rfl) (x_move (v := .int .i64 y9_1) (by rfl)) ?_
            refine RL_pure (by exact wn0 rfl) (by rfl) (by rfl) (x_fieldAddr fo28_0 (by rfl)) ?_
            refine RL_pure (by exact wn0 rfl) (by rfl) (by rfl) (x_load (j := 0) (v := .slice A30 v28.1.Levels.length cp31) sc26 (by rfl) (H.cells (i := 2) (by rfl)) (by rfl)) ?_
            refine RL_pure (by exact wn0 rfl) (by rfl) (by rfl) (x_len sl26 (by rfl)) ?_
            refine RL_pure (by exact wn0 rfl) (by rfl) (by rfl) (x_lss (by rfl) (by rfl)) ?_
            refine RL_nil ?_
            refine W_cond (by rfl) (fun hb => ?_) (fun hb => ?_)
            · have hm := cond_t hb hm
              refine W_skip ?_
              refine W_seq ?_
              refine W_block ?_
              refine W_seq ?_
              refine W_region ?_
              refine RL_pure (by exact wn0 rfl) (by rfl) (by rfl) (x_fieldAddr fo28_0 (by rfl)) ?_
              refine RL_pure (by exact wn0 rfl) (by rfl) (by rfl) (x_load (j := 0) (v := .slice A30 v28.1.Levels.length cp31) sc26 (by rfl) (H.cells (i := 2) (by rfl)) (by rfl)) ?_
              refine RL_pure (by exact wn0 rfl) (by rfl) (by rfl) (x_move (v := .int .i64 y9_1) (by rfl)) ?_
              obtain ⟨el41, h42, h43, he44, hm⟩ := idx_some hm
              obtain ⟨g46, o47, hA45⟩ := (H.rd (i := 4) (by rfl)).addr he44
              obtain ⟨cs48, hk49, hat50, hg_cs48⟩ := (H.rd (i := 4) (by rfl)).openAt hA45 he44
              obtain ⟨A53, cp54, rfl, hR56⟩ := hk49
              have H : Sep ok w w40 [.blk b17 25 [.int .i64 a0.W, .int .i64 a0.H, .slice A1 a0.Color.length cp2, .slice A5 a0.Depth.length cp6, .slice A9 a0.Item.length cp10, .slice A13 a0.Tri.length cp14], .blk b19 30 [.int .i64 a1.X0, .int .i64 a1.Y0, .int .i64 a1.X1, .int .i64 a1.Y1], .blk b33 28 [.slice A30 v28.1.Levels.length cp31]] [RE.rd k_Ar4_Int A1 cp2 a0.Color, RE.rd kInt A5 cp6 a0.Depth, RE.rd kInt A9 cp10 a0.Item, RE.rd kInt A13 cp14 a0.Tri, RE.rd k_Level A30 cp31 v28.1.Levels, RE.cells g46 (o47 + (y9_1).toNat * 3) [.int .i64 el41.W, .int .i64 el41.H, .slice A53 el41.Low.length cp54]] := Sep.also H (re := RE.cells g46 (o47 + (y9_1).toNat * 3) [.int .i64 el41.W, .int .i64 el41.H, .slice A53 el41.Low.length cp54]) ⟨hg_cs48.1, hg_cs48.2, hat50⟩
              have H : Sep ok w w40 [.blk b17 25 [.int .i64 a0.W, .int .i64 a0.H, .slice A1 a0.Color.length cp2, .slice A5 a0.Depth.length cp6, .slice A9 a0.Item.length cp10, .slice A13 a0.Tri.length cp14], .blk b19 30 [.int .i64 a1.X0, .int .i64 a1.Y0, .int .i64 a1.X1, .int .i64 a1.Y1], .blk b33 28 [.slice A30 v28.1.Levels.length cp31]] [RE.rd k_Ar4_Int A1 cp2 a0.Color, RE.rd kInt A5 cp6 a0.Depth, RE.rd kInt A9 cp10 a0.Item, RE.rd kInt A13 cp14 a0.Tri, RE.rd k_Level A30 cp31 v28.1.Levels, RE.cells g46 (o47 + (y9_1).toNat * 3) [.int .i64 el41.W, .int .i64 el41.H, .slice A53 el41.Low.length cp54], RE.rd kInt A53 cp54 el41.Low] := Sep.also H (re := RE.rd kInt A53 cp54 el41.Low) hR56
              refine RL_pure (by exact wn0 rfl) (by rfl) (by rfl) (x_indexAddr sl26 sz54 (by rfl) (by rfl) hA45 h42 h43) ?_
              refine RL_pure (by exact wn0 rfl) (by rfl) (by rfl) (x_loadA (j := 0) (vs := [.int .i64 el41.W, .int .i64 el41.H, .slice A53 el41.Low.length cp54]) ag54 (by rfl) (H.cellsR (i := 5) (by rfl)) (by rfl) (by rfl)) ?_
              refine RL_cons (O_alloc (by exact wn0 rfl) (by rfl) ze54 (by rfl) H (fun w59 b58 (H : Sep ok w w59 [.blk b17 25 [.int .i64 a0.W, .int .i64 a0.H, .slice A1 a0.Color.length cp2, .slice A5 a0.Depth.length cp6, .slice A9 a0.Item.length cp10, .slice A13 a0.Tri.length cp14], .blk b19 30 [.int .i64 a1.X0, .int .i64 a1.Y0, .int .i64 a1.X1, .int .i64 a1.Y1], .blk b33 28 [.slice A30 v28.1.Levels.length cp31], .blk b58 54 [.int .i64 0, .int .i64 0, .slice none 0 0]] [RE.rd k_Ar4_Int A1 cp2 a0.Color, RE.rd kInt A5 cp6 a0.Depth, RE.rd kInt A9 cp10 a0.Item, RE.rd kInt A13 cp14 a0.Tri, RE.rd k_Level A30 cp31 v28.1.Levels, RE.cells g46 (o47 + (y9_1).toNat * 3) [.int .i64 el41.W, .int .i64 el41.H, .slice A53 el41.Low.length cp54], RE.rd kInt A53 cp54 el41.Low]) => ?_))
              refine RL_cons (O_store (i := 3) (off := 0) (by exact wn0 rfl) (by rfl) (by rfl) H (by rfl) (vs := [.int .i64 el41.W, .int .i64 el41.H, .slice A53 el41.Low.length cp54]) (by rfl) sz54 (by rfl) (by rfl) (by rfl) (fun w60 (H : Sep ok w w60 [.blk b17 25 [.int .i64 a0.W, .int .i64 a0.H, .slice A1 a0.Color.length cp2, .slice A5 a0.Depth.length cp6, .slice A9 a0.Item.length cp10, .slice A13 a0.Tri.length cp14], .blk b19 30 [.int .i64 a1.X0, .int .i64 a1.Y0, .int .i64 a1.X1, .int .i64 a1.Y1], .blk b33 28 [.slice A30 v28.1.Levels.length cp31], .blk b58 54 [.int .i64 el41.W, .int .i64 el41.H, .slice A53 el41.Low.length cp54]] [RE.rd k_Ar4_Int A1 cp2 a0.Color, RE.rd kInt A5 cp6 a0.Depth, RE.rd kInt A9 cp10 a0.Item, RE.rd kInt A13 cp14 a0.Tri, RE.rd k_Level A30 cp31 v28.1.Levels, RE.cells g46 (o47 + (y9_1).toNat * 3) [.int .i64 el41.W, .int .i64 el41.H, .slice A53 el41.Low.length cp54], RE.rd kInt A53 cp54 el41.Low]) => ?_))
              refine RL_nil ?_
              refine W_seq ?_
              refine W_seq ?_
              refine W_region ?_
              refine RL_pure (by exact wn0 rfl) (by rfl) (by rfl) (x_fieldAddr fo54_0 (by rfl)) ?_
              refine RL_pure (by exact wn0 rfl) (by rfl) (by rfl) (x_load (j := 0) (v := .int .i64 el41.W) sc3 (by rfl) (H.cells (i := 3) (by rfl)) (by rfl)) ?_
              refine RL_pure (by exact wn0 rfl) (by rfl) (by rfl) (x_lss (by rfl) (by rfl)) ?_
              refine RL_pure (by exact wn0 rfl) (by rfl) (by rfl) (x_move (v := .bool (decide (el41.W < 1))) (by rfl)) ?_
              obtain ⟨b61, hmS, hm⟩ := bind_some hm
              refine RL_cut 4 (fun r' w' => Agr [(58, .bool b61), (2, .pointer (some ⟨b17, 0, none⟩)), (3, .pointer (some ⟨b19, 0, none⟩)), (5, .bool v22), (6, .pointer (some ⟨b33, 0, none⟩)), (8, .int .i64 y8_1), (9, .int .i64 y9_1), (10, .pointer (some ⟨b58, 0, none⟩))] r' ∧ Sep ok w w' [.blk b17 25 [.int .i64 a0.W, .int .i64 a0.H, .slice A1 a0.Color.length cp2, .slice A5 a0.Depth.length cp6, .slice A9 a0.Item.length cp10, .slice A13 a0.Tri.length cp14], .blk b19 30 [.int .i64 a1.X0, .int .i64 a1.Y0, .int .i64 a1.X1, .int .i64 a1.Y1], .blk b33 28 [.slice A30 v28.1.Levels.length cp31], .blk b58 54 [.int .i64 el41.W, .int .i64 el41.H, .slice A53 el41.Low.length cp54]] [RE.rd k_Ar4_Int A1 cp2 a0.Color, RE.rd kInt A5 cp6 a0.Depth, RE.rd kInt A9 cp10 a0.Item, RE.rd kInt A13 cp14 a0.Tri, RE.rd k_Level A30 cp31 v28.1.Levels, RE.cells g46 (o47 + (y9_1).toNat * 3) [.int .i64 el41.W, .int .i64 el41.H, .slice A53 el41.Low.length cp54], RE.rd kInt A53 cp54 el41.Low]) ?_ ?_
              · cases hbS : (decide (el41.W < 1))
                · have hm := cond_f hbS hmS
                  refine RL_pure (by exact wn1 rfl rfl rfl rfl) (by rfl) (by rfl) (x_fieldAddr fo54_1 (by rfl)) ?_
                  refine RL_pure (by exact wn1 rfl rfl rfl rfl) (by rfl) (by rfl) (x_load (j := 1) (v := .int .i64 el41.H) sc3 (by rfl) (H.cells (i := 3) (by rfl)) (by rfl)) ?_
                  refine RL_pure (by exact wn1 rfl rfl rfl rfl) (by rfl) (by rfl) (x_lss (by rfl) (by rfl)) ?_
                  refine RL_pure (by exact wn0 rfl) (by rfl) (by rfl) (x_pick_f (v := .bool (decide (el41.H < 1))) (by rfl) (by rfl)) ?_
                  refine RL_nil ?_
                  exact ⟨⟨congrArg Value.bool (Option.some.inj hm), rfl, rfl, rfl, rfl, rfl, rfl, rfl, trivial⟩, H⟩
                · have hm := cond_t hbS hmS
                  refine RL_cons (OpR_off (by exact wn2 rfl rfl rfl rfl) (by rfl) (by rfl) ?_)
                  refine RL_cons (OpR_off (by exact wn2 rfl rfl rfl rfl) (by rfl) (by rfl) ?_)
                  refine RL_cons (OpR_off (by exact wn2 rfl rfl rfl rfl) (by rfl) (by rfl) ?_)
                  refine RL_pure (by exact wn0 rfl) (by rfl) (by rfl) (x_pick_t (v := .bool true) (by rfl) (by rfl)) ?_
                  refine RL_nil ?_
                  exact ⟨⟨congrArg Value.bool (Option.some.inj hm), rfl, rfl, rfl, rfl, rfl, rfl, rfl, trivial⟩, H⟩
              · rintro r' w' ⟨hA, H⟩
                obtain ⟨r62, rfl⟩ := regen _ hA; clear hA
                obtain ⟨w63, rfl⟩ : ∃ W : World, W = w' := ⟨_, rfl⟩
                show RL _ _ _ _ _ _ _
                refine RL_pure (by exact wn0 rfl) (by rfl) (by rfl) (x_move (v := .bool b61) (by rfl)) ?_
                obtain ⟨b64, hmS, hm⟩ := bind_some hm
                refine RL_cut 10 (fun r' w' => Agr [(69, .bool b64), (2, .pointer (some ⟨b17, 0, none⟩)), (3, .pointer (some ⟨b19, 0, none⟩)), (5, .bool v22), (6, .pointer (some ⟨b33, 0, none⟩)), (8, .int .i64 y8_1), (9, .int .i64 y9_1), (10, .pointer (some ⟨b58, 0, none⟩))] r' ∧ Sep ok w w' [.blk b17 25 [.int .i64 a0.W, .int .i64 a0.H, .slice A1 a0.Color.length cp2, .slice A5 a0.Depth.length cp6, .slice A9 a0.Item.length cp10, .slice A13 a0.Tri.length cp14], .blk b19 30 [.int .i64 a1.X0, .int .i64 a1.Y0, .int .i64 a1.X1, .int .i64 a1.Y1], .blk b33 28 [.slice A30 v28.1.Levels.length cp31], .blk b58 54 [.int .i64 el41.W, .int .i64 el41.H, .slice A53 el41.Low.length cp54]] [RE.rd k_Ar4_Int A1 cp2 a0.Color, RE.rd kInt A5 cp6 a0.Depth, RE.rd kInt A9 cp10 a0.Item, RE.rd kInt A13 cp14 a0.Tri, RE.rd k_Level A30 cp31 v28.1.Levels, RE.cells g46 (o47 + (y9_1).toNat * 3) [.int .i64 el41.W, .int .i64 el41.H, .slice A53 el41.Low.length cp54], RE.rd kInt A53 cp54 el41.Low]) ?_ ?_
                · cases hbS : b61
                  · have hm := cond_f hbS hmS
                    refine RL_pure (by exact wn1 rfl rfl rfl rfl) (by rfl) (by rfl) (x_fieldAddr fo54_2 (by rfl)) ?_
                    refine RL_pure (by exact wn1 rfl rfl rfl rfl) (by rfl) (by rfl) (x_load (j := 2) (v := .slice A53 el41.Low.length cp54) sc23 (by rfl) (H.cells (i := 3) (by rfl)) (by rfl)) ?_
                    refine RL_pure (by exact wn1 rfl rfl rfl rfl) (by rfl) (by rfl) (x_len sl23 (by rfl)) ?_
                    refine RL_pure (by exact wn1 rfl rfl rfl rfl) (by rfl) (by rfl) (x_fieldAddr fo54_0 (by rfl)) ?_
                    refine RL_pure (by exact wn1 rfl rfl rfl rfl) (by rfl) (by rfl) (x_load (j := 0) (v := .int .i64 el41.W) sc3 (by rfl) (H.cells (i := 3) (by rfl)) (by rfl)) ?_
                    refine RL_pure (by exact wn1 rfl rfl rfl rfl) (by rfl) (by rfl) (x_fieldAddr fo54_1 (by rfl)) ?_
                    refine RL_pure (by exact wn1 rfl rfl rfl rfl) (by rfl) (by rfl) (x_load (j := 1) (v := .int .i64 el41.H) sc3 (by rfl) (H.cells (i := 3) (by rfl)) (by rfl)) ?_
                    obtain ⟨x65, ex65, qx65, ux65, hm⟩ := ck_some hm
                    refine RL_pure (by exact wn1 rfl rfl rfl rfl) (by rfl) (by rfl) (x_mul (by rfl) (by rfl) ux65) ?_
                    refine RL_pure (by exact wn1 rfl rfl rfl rfl) (by rfl) (by rfl) (x_neq (by rfl) (by rfl)) ?_
                    refine RL_pure (by exact wn0 rfl) (by rfl) (by rfl) (x_pick_f (v := .bool ((el41.Low.length : Int) != x65)) (by rfl) (by rfl)) ?_
                    refine RL_nil ?_
                    exact ⟨⟨congrArg Value.bool (Option.some.inj hm), rfl, rfl, rfl, rfl, rfl, rfl, rfl, trivial⟩, H⟩
                  · have hm := cond_t hbS hmS
                    refine RL_cons (OpR_off (by exact wn2 rfl rfl rfl rfl) (by rfl) (by rfl) ?_)
                    refine RL_cons (OpR_off (by exact wn2 rfl rfl rfl rfl) (by rfl) (by rfl) ?_)
                    refine RL_cons (OpR_off (by exact wn2 rfl rfl rfl rfl) (by rfl) (by rfl) ?_)
                    refine RL_cons (OpR_off (by exact wn2 rfl rfl rfl rfl) (by rfl) (by rfl) ?_)
                    refine RL_cons (OpR_off (by exact wn2 rfl rfl rfl rfl) (by rfl) (by rfl) ?_)
                    refine RL_cons (OpR_off (by exact wn2 rfl rfl rfl rfl) (by rfl) (by rfl) ?_)
                    refine RL_cons (OpR_off (by exact wn2 rfl rfl rfl rfl) (by rfl) (by rfl) ?_)
                    refine RL_cons (OpR_off (by exact wn2 rfl rfl rfl rfl) (by rfl) (by rfl) ?_)
                    refine RL_cons (OpR_off (by exact wn2 rfl rfl rfl rfl) (by rfl) (by rfl) ?_)
                    refine RL_pure (by exact wn0 rfl) (by rfl) (by rfl) (x_pick_t (v := .bool true) (by rfl) (by rfl)) ?_
                    refine RL_nil ?_
                    exact ⟨⟨congrArg Value.bool (Option.some.inj hm), rfl, rfl, rfl, rfl, rfl, rfl, rfl, trivial⟩, H⟩
                · rintro r' w' ⟨hA, H⟩
                  obtain ⟨r66, rfl⟩ := regen _ hA; clear hA
                  obtain ⟨w67, rfl⟩ : ∃ W : World, W = w' := ⟨_, rfl⟩
                  show RL _ _ _ _ _ _ _
                  refine RL_pure (by exact wn0 rfl) (by rfl) (by rfl) (x_move (v := .bool b64) (by rfl)) ?_
                  obtain ⟨b68, hmS, hm⟩ := bind_some hm
                  refine RL_cut 16 (fun r' w' => Agr [(86, .bool b68), (2, .pointer (some ⟨b17, 0, none⟩)), (3, .pointer (some ⟨b19, 0, none⟩)), (5, .bool v22), (6, .pointer (some ⟨b33, 0, none⟩)), (8, .int .i64 y8_1), (9, .int .i64 y9_1), (10, .pointer (some ⟨b58, 0, none⟩))] r' ∧ Sep ok w w' [.blk b17 25 [.int .i64 a0.W, .int .i64 a0.H, .slice A1 a0.Color.length cp2, .slice A5 a0.Depth.length cp6, .slice A9 a0.Item.length cp10, .slice A13 a0.Tri.length cp14], .blk b19 30 [.int .i64 a1.X0, .int .i64 a1.Y0, .int .i64 a1.X1, .int .i64 a1.Y1], .blk b33 28 [.slice A30 v28.1.Levels.length cp31], .blk b58 54 [.int .i64 el41.W, .int .i64 el41.H, .slice A53 el41.Low.length cp54]] [RE.rd k_Ar4_Int A1 cp2 a0.Color, RE.rd kInt A5 cp6 a0.Depth, RE.rd kInt A9 cp10 a0.Item, RE.rd kInt A13 cp14 a0.Tri, RE.rd k_Level A30 cp31 v28.1.Levels, RE.cells g46 (o47 + (y9_1).toNat * 3) [.int .i64 el41.W, .int .i64 el41.H, .slice A53 el41.Low.length cp54], RE.rd kInt A53 cp54 el41.Low]) ?_ ?_
                  · cases hbS : b64
                    · have hm := cond_f hbS hmS
                      refine RL_pure (by exact wn1 rfl rfl rfl rfl) (by rfl) (by rfl) (x_fieldAddr fo54_0 (by rfl)) ?_
                      refine RL_pure (by exact wn1 rfl rfl rfl rfl) (by rfl) (by rfl) (x_load (j := 0) (v := .int .i64 el41.W) sc3 (by rfl) (H.cells (i := 3) (by rfl)) (by rfl)) ?_
                      refine RL_pure (by exact wn1 rfl rfl rfl rfl) (by rfl) (by rfl) (x_eql (by rfl) (by rfl)) ?_
                      refine RL_pure (by exact wn1 rfl rfl rfl rfl) (by rfl) (by rfl) (x_move (v := .bool (el41.W == 1)) (by rfl)) ?_
                      obtain ⟨b69, hmS, hm⟩ := bind_some hm
                      refine RL_cut 4 (fun r' w' => Agr [(78, .bool b69), (2, .pointer (some ⟨b17, 0, none⟩)), (3, .pointer (some ⟨b19, 0, none⟩)), (5, .bool v22), (6, .pointer (some ⟨b33, 0, none⟩)), (8, .int .i64 y8_1), (9, .int .i64 y9_1), (10, .pointer (some ⟨b58, 0, none⟩)), (70, .bool false)] r' ∧ Sep ok w w' [.blk b17 25 [.int .i64 a0.W, .int .i64 a0.H, .slice A1 a0.Color.length cp2, .slice A5 a0.Depth.length cp6, .slice A9 a0.Item.length cp10, .slice A13 a0.Tri.length cp14], .blk b19 30 [.int .i64 a1.X0, .int .i64 a1.Y0, .int .i64 a1.X1, .int .i64 a1.Y1], .blk b33 28 [.slice A30 v28.1.Levels.length cp31], .blk b58 54 [.int .i64 el41.W, .int .i64 el41.H, .slice A53 el41.Low.length cp54]] [RE.rd k_Ar4_Int A1 cp2 a0.Color, RE.rd kInt A5 cp6 a0.Depth, RE.rd kInt A9 cp10 a0.Item, RE.rd kInt A13 cp14 a0.Tri, RE.rd k_Level A30 cp31 v28.1.Levels, RE.cells g46 (o47 + (y9_1).toNat * 3) [.int .i64 el41.W, .int .i64 el41.H, .slice A53 el41.Low.length cp54], RE.rd kInt A53 cp54 el41.Low]) ?_ ?_
                      · cases hbS : (el41.W == 1)
                        · have hm := cond_f hbS hmS
                          refine RL_cons (OpR_off (by exact wn2 rfl rfl rfl rfl) (by rfl) (by rfl) ?_)
                          refine RL_cons (OpR_off (by exact wn2 rfl rfl rfl rfl) (by rfl) (by rfl) ?_)
                          refine RL_cons (OpR_off (by exact wn2 rfl rfl rfl rfl) (by rfl) (by rfl) ?_)
                          refine RL_pure (by exact wn1 rfl rfl rfl rfl) (by rfl) (by rfl) (x_pick_f (v := .bool false) (by rfl) (by rfl)) ?_
                          refine RL_nil ?_
                          exact ⟨⟨congrArg Value.bool (Option.some.inj hm), rfl, rfl, rfl, rfl, rfl, rfl, rfl, rfl, trivial⟩, H⟩
                        · have hm := cond_t hbS hmS
                          refine RL_pure (by exact wn1 rfl rfl rfl rfl) (by rfl) (by rfl) (x_fieldAddr fo54_1 (by rfl)) ?_
                          refine RL_pure (by exact wn1 rfl rfl rfl rfl) (by rfl) (by rfl) (x_load (j := 1) (v := .int .i64 el41.H) sc3 (by rfl) (H.cells (i := 3) (by rfl)) (by rfl)) ?_
                          refine RL_pure (by exact wn1 rfl rfl rfl rfl) (by rfl) (by rfl) (x_eql (by rfl) (by rfl)) ?_
                          refine RL_pure (by exact wn1 rfl rfl rfl rfl) (by rfl) (by rfl) (x_pick_t (v := .bool (el41.H == 1)) (by rfl) (by rfl)) ?_
                          refine RL_nil ?_
                          exact ⟨⟨congrArg Value.bool (Option.some.inj hm), rfl, rfl, rfl, rfl, rfl, rfl, rfl, rfl, trivial⟩, H⟩
                      · rintro r' w' ⟨hA, H⟩
                        obtain ⟨r70, rfl⟩ := regen _ hA; clear hA
                        obtain ⟨w71, rfl⟩ : ∃ W : World, W = w' := ⟨_, rfl⟩
                        show RL _ _ _ _ _ _ _
                        refine RL_pure (by exact wn1 rfl rfl rfl rfl) (by rfl) (by rfl) (x_move (v := .int .i64 y9_1) (by rfl)) ?_
                        refine RL_pure (by exact wn1 rfl rfl rfl rfl) (by rfl) (by rfl) (x_fieldAddr fo28_0 (by rfl)) ?_
                        refine RL_pure (by exact wn1 rfl rfl rfl rfl) (by rfl) (by rfl) (x_load (j := 0) (v := .slice A30 v28.1.Levels.length cp31) sc26 (by rfl) (H.cells (i := 2) (by rfl)) (by rfl)) ?_
                        refine RL_pure (by exact wn1 rfl rfl rfl rfl) (by rfl) (by rfl) (x_len sl26 (by rfl)) ?_
                        obtain ⟨x72, ex72, qx72, ux72, hm⟩ := ck_some hm
                        refine RL_pure (by exact wn1 rfl rfl rfl rfl) (by rfl) (by rfl) (x_sub (by rfl) (by rfl) ux72) ?_
                        refine RL_pure (by exact wn1 rfl rfl rfl rfl) (by rfl) (by rfl) (x_eql (by rfl) (by rfl)) ?_
                        refine RL_pure (by exact wn1 rfl rfl rfl rfl) (by rfl) (by rfl) (x_neqb un4 (by rfl) (by rfl)) ?_
                        refine RL_pure (by exact wn0 rfl) (by rfl) (by rfl) (x_pick_f (v := .bool (!(b69 == (y9_1 == x72)))) (by rfl) (by rfl)) ?_
                        refine RL_nil ?_
                        exact ⟨⟨congrArg Value.bool (Option.some.inj hm), rfl, rfl, rfl, rfl, rfl, rfl, rfl, trivial⟩, H⟩
                    · have hm := cond_t hbS hmS
                      refine RL_cons (OpR_off (by exact wn2 rfl rfl rfl rfl) (by rfl) (by rfl) ?_)
                      refine RL_cons (OpR_off (by exact wn2 rfl rfl rfl rfl) (by rfl) (by rfl) ?_)
                      refine RL_cons (OpR_off (by exact wn2 rfl rfl rfl rfl) (by rfl) (by rfl) ?_)
                      refine RL_cons (OpR_off (by exact wn2 rfl rfl rfl rfl) (by rfl) (by rfl) ?_)
                      refine RL_cons (OpR_off (by exact wn3 rfl rfl rfl) (by rfl) (by rfl) ?_)
                      refine RL_cons (OpR_off (by exact wn3 rfl rfl rfl) (by rfl) (by rfl) ?_)
                      refine RL_cons (OpR_off (by exact wn3 rfl rfl rfl) (by rfl) (by rfl) ?_)
                      refine RL_cons (OpR_off (by exact wn2 rfl rfl rfl rfl) (by rfl) (by rfl) ?_)
                      refine RL_cons (OpR_off (by exact wn2 rfl rfl rfl rfl) (by rfl) (by rfl) ?_)
                      refine RL_cons (OpR_off (by exact wn2 rfl rfl rfl rfl) (by rfl) (by rfl) ?_)
                      refine RL_cons (OpR_off (by exact wn2 rfl rfl rfl rfl) (by rfl) (by rfl) ?_)
                      refine RL_cons (OpR_off (by exact wn2 rfl rfl rfl rfl) (by rfl) (by rfl) ?_)
                      refine RL_cons (OpR_off (by exact wn2 rfl rfl rfl rfl) (by rfl) (by rfl) ?_)
                      refine RL_cons (OpR_off (by exact wn2 rfl rfl rfl rfl) (by rfl) (by rfl) ?_)
                      refine RL_cons (OpR_off (by exact wn2 rfl rfl rfl rfl) (by rfl) (by rfl) ?_)
                      refine RL_pure (by exact wn0 rfl) (by rfl) (by rfl) (x_pick_t (v := .bool true) (by rfl) (by rfl)) ?_
                      refine RL_nil ?_
                      exact ⟨⟨congrArg Value.bool (Option.some.inj hm), rfl, rfl, rfl, rfl, rfl, rfl, rfl, trivial⟩, H⟩
                  · rintro r' w' ⟨hA, H⟩
                    obtain ⟨r73, rfl⟩ := regen _ hA; clear hA
                    obtain ⟨w74, rfl⟩ : ∃ W : World, W = w' := ⟨_, rfl⟩
                    show RL _ _ _ _ _ _ _
                    refine RL_nil ?_
                    refine W_cond (by rfl) (fun hb => ?_) (fun hb => ?_)
                    · have hm := cond_t hb hm
                      refine W_seq ?_
                      refine W_region ?_
                      refine RL_pure (by exact wn0 rfl) (by rfl) (by rfl) (x_assign (v := .bool false) (by rfl)) ?_
                      refine RL_nil ?_
                      refine W_ret ?_
                      obtain rfl := Option.some.inj hm
                      exact ⟨[.bool false], (.tmp (by rfl) rfl), rfl, H.none_⟩
                    · have hm := cond_f hb hm
                      refine W_skip ?_
                      refine W_seq ?_
                      refine W_region ?_
                      refine RL_pure (by exact wn0 rfl) (by rfl) (by rfl) (x_fieldAddr fo54_2 (by rfl)) ?_
                      refine RL_pure (by exact wn0 rfl) (by rfl) (by rfl) (x_load (j := 2) (v := .slice A53 el41.Low.length cp54) sc23 (by rfl) (H.cells (i := 3) (by rfl)) (by rfl)) ?_
                      refine RL_pure (by exact wn0 rfl) (by rfl) (by rfl) (x_len sl23 (by rfl)) ?_
                      obtain ⟨l78, h80, hl79, hb81, hm⟩ := mks_some hm
                      refine RL_cons (O_makeSlice (D := kInt) (x0 := 0) (by exact wn0 rfl) (by rfl) (by rfl) (by rfl) sl23 sz3 by3 ze3 (by rfl) (by intro w ok; exact rfl) h80 hl79 hb81 H (by rfl) (fun w75 b76 cs77 (H : Sep ok w w75 [.blk b17 25 [.int .i64 a0.W, .int .i64 a0.H, .slice A1 a0.Color.length cp2, .slice A5 a0.Depth.length cp6, .slice A9 a0.Item.length cp10, .slice A13 a0.Tri.length cp14], .blk b19 30 [.int .i64 a1.X0, .int .i64 a1.Y0, .int .i64 a1.X1, .int .i64 a1.Y1], .blk b33 28 [.slice A30 v28.1.Levels.length cp31], .blk b58 54 [.int .i64 el41.W, .int .i64 el41.H, .slice A53 el41.Low.length cp54], .row (.slice (some ⟨b76, 0, none⟩) l78.length l78.length) 3 kInt.sz l78.length cs77] [RE.rd k_Ar4_Int A1 cp2 a0.Color, RE.rd kInt A5 cp6 a0.Depth, RE.rd kInt A9 cp10 a0.Item, RE.rd kInt A13 cp14 a0.Tri, RE.rd k_Level A30 cp31 v28.1.Levels, RE.cells g46 (o47 + (y9_1).toNat * 3) [.int .i64 el41.W, .int .i64 el41.H, .slice A53 el41.Low.length cp54], RE.rd kInt A53 cp54 el41.Low, RE.chunks kInt cs77 l78]) => ?_))
                      refine RL_pure (by exact wn0 rfl) (by rfl) (by rfl) (x_assign (v := .slice (some ⟨b76, 0, none⟩) l78.length l78.length) (by rfl)) ?_
                      refine RL_nil ?_
                      refine W_seq ?_
                      refine W_seq ?_
                      refine W_region ?_
                      refine RL_pure (by exact wn0 rfl) (by rfl) (by rfl) (x_assign (v := .int .i64 0) (by rfl)) ?_
                      refine RL_nil ?_
                      refine W_block ?_
                      refine W_loop (fun k2 r' w' => ∃ (l_row82_2 : (List Int)), ∃ (y12_2 : Int), ∃ (A_row82_2 : Option Addr), ∃ (c_row82_2 : Nat), ∃ (cs_row82_2 : List Value), m5_l2 K a0 y8_1 y9_1 rec1 el41 k2 l_row82_2 y12_2 = some res ∧ Agr [(2, .pointer (some ⟨b17, 0, none⟩)), (3, .pointer (some ⟨b19, 0, none⟩)), (5, .bool v22), (6, .pointer (some ⟨b33, 0, none⟩)), (8, .int .i64 y8_1), (9, .int .i64 y9_1), (10, .pointer (some ⟨b58, 0, none⟩)), (11, .slice A_row82_2 l_row82_2.length c_row82_2), (12, .int .i64 y12_2)] r' ∧ Sep ok w w' [.blk b17 25 [.int .i64 a0.W, .int .i64 a0.H, .slice A1 a0.Color.length cp2, .slice A5 a0.Depth.length cp6, .slice A9 a0.Item.length cp10, .slice A13 a0.Tri.length cp14], .blk b19 30 [.int .i64 a1.X0, .int .i64 a1.Y0, .int .i64 a1.X1, .int .i64 a1.Y1], .blk b33 28 [.slice A30 v28.1.Levels.length cp31], .blk b58 54 [.int .i64 el41.W, .int .i64 el41.H, .slice A53 el41.Low.length cp54], .row (.slice A_row82_2 l_row82_2.length c_row82_2) 3 kInt.sz l_row82_2.length cs_row82_2] [RE.rd k_Ar4_Int A1 cp2 a0.Color, RE.rd kInt A5 cp6 a0.Depth, RE.rd kInt A9 cp10 a0.Item, RE.rd kInt A13 cp14 a0.Tri, RE.rd k_Level A30 cp31 v28.1.Levels, RE.cells g46 (o47 + (y9_1).toNat * 3) [.int .i64 el41.W, .int .i64 el41.H, .slice A53 el41.Low.length cp54], RE.rd kInt A53 cp54 el41.Low, RE.chunks kInt cs_row82_2 l_row82_2]) K ?_ ?_
                      · exact ⟨l78, 0, (some ⟨b76, 0, none⟩), l78.length, cs77, hm, ⟨rfl, rfl, rfl, rfl, rfl, rfl, rfl, rfl, rfl, trivial⟩, H⟩
                      · rintro k2 r' w' ⟨l_row82_2, y12_2, A_row82_2, c_row82_2, cs_row82_2, hm, hA, H⟩
                        obtain ⟨r84, rfl⟩ := regen _ hA; clear hA
                        obtain ⟨w85, rfl⟩ : ∃ W : World, W = w' := ⟨_, rfl⟩
                        cases k2 with
                        | zero => exact (none_some hm).elim
                        | succ k2 =>
                          have hm : m5_l2b K a0 y8_1 y9_1 rec1 el41 (m5_l2 K a0 y8_1 y9_1 rec1 el41 k2) l_row82_2 y12_2 = some res := hm
                          unfold m5_l2b at hm
                          obtain ⟨rec2, hrec2⟩ : ∃ f, m5_l2 K a0 y8_1 y9_1 rec1 el41 k2 = f := ⟨_, rfl⟩
                          rw [hrec2] at hm
                          refine W_seq ?_
                          refine W_seq ?_
                          refine W_region ?_
                          refine RL_pure (by exact wn0 rfl) (by rfl) (by rfl) (x_move (v := .int .i64 y12_2) (by rfl)) ?_
                          refine RL_pure (by exact wn0 rfl) (by rfl) (by rfl) (x_fieldAddr fo25_3 (by rfl)) ?_
                          refine RL_pure (by exact wn0 rfl) (by rfl) (by rfl) (x_load (j := 3) (v := .slice A5 a0.Depth.length cp6) sc23 (by rfl) (H.cells (i := 0) (by rfl)) (by rfl)) ?_
                          refine RL_pure (by exact wn0 rfl) (by rfl) (by rfl) (x_len sl23 (by rfl)) ?_
                          refine RL_pure (by exact wn0 rfl) (by rfl) (by rfl) (x_lss (by rfl) (by rfl)) ?_
                          refine RL_nil ?_
                          refine W_cond (by rfl) (fun hb => ?_) (fun hb => ?_)
                          · have hm := cond_t hb hm
                            refine W_skip ?_
                            refine W_seq ?_
                            refine W_block ?_
                            refine W_seq ?_
                            refine W_draw [.free 0, .free 1, .take 2, .free 3, .free 4, .free 5, .free 6, .take 7, .free 8, .free 9, .free 10, .take 11, .free 12, .free 13, .free 14, .free 15, .free 16] (fun wS => Sep ok w wS [.blk b17 25 [.int .i64 a0.W, .int .i64 a0.H, .slice A1 a0.Color.length cp2, .slice A5 a0.Depth.length cp6, .slice A9 a0.Item.length cp10, .slice A13 a0.Tri.length cp14], .blk b19 30 [.int .i64 a1.X0, .int .i64 a1.Y0, .int .i64 a1.X1, .int .i64 a1.Y1], .blk b33 28 [.slice A30 v28.1.Levels.length cp31], .blk b58 54 [.int .i64 el41.W, .int .i64 el41.H, .slice A53 el41.Low.length cp54], .row (.slice A_row82_2 l_row82_2.length c_row82_2) 3 kInt.sz l_row82_2.length cs_row82_2] [RE.rd k_Ar4_Int A1 cp2 a0.Color, RE.rd kInt A5 cp6 a0.Depth, RE.rd kInt A9 cp10 a0.Item, RE.rd kInt A13 cp14 a0.Tri, RE.rd k_Level A30 cp31 v28.1.Levels, RE.cells g46 (o47 + (y9_1).toNat * 3) [.int .i64 el41.W, .int .i64 el41.H, .slice A53 el41.Low.length cp54], RE.rd kInt A53 cp54 el41.Low, RE.chunks kInt cs_row82_2 l_row82_2]) [] [0, 1, 3, 4, 5, 6, 8, 9, 10, 12, 13, 14, 15, 16] mixed0 (by kernel_rfl) (by kernel_rfl) (by kernel_rfl) (by rfl) (by exact H.drew) ?_
                            obtain ⟨w86, hW⟩ : ∃ W : World, W = { w85 with drawn := w85.drawn + 1 } := ⟨_, rfl⟩
                            rw [← hW]
                            have H : Sep ok w w86 [.blk b17 25 [.int .i64 a0.W, .int .i64 a0.H, .slice A1 a0.Color.length cp2, .slice A5 a0.Depth.length cp6, .slice A9 a0.Item.length cp10, .slice A13 a0.Tri.length cp14], .blk b19 30 [.int .i64 a1.X0, .int .i64 a1.Y0, .int .i64 a1.X1, .int .i64 a1.Y1], .blk b33 28 [.slice A30 v28.1.Levels.length cp31], .blk b58 54 [.int .i64 el41.W, .int .i64 el41.H, .slice A53 el41.Low.length cp54], .row (.slice A_row82_2 l_row82_2.length c_row82_2) 3 kInt.sz l_row82_2.length cs_row82_2] [RE.rd k_Ar4_Int A1 cp2 a0.Color, RE.rd kInt A5 cp6 a0.Depth, RE.rd kInt A9 cp10 a0.Item, RE.rd kInt A13 cp14 a0.Tri, RE.rd k_Level A30 cp31 v28.1.Levels, RE.cells g46 (o47 + (y9_1).toNat * 3) [.int .i64 el41.W, .int .i64 el41.H, .slice A53 el41.Low.length cp54], RE.rd kInt A53 cp54 el41.Low, RE.chunks kInt cs_row82_2 l_row82_2] := by rw [hW]; exact H.drew
                            clear hW
                            refine PR_free (by rfl) (by rfl) (by rfl) (by exact wn0 rfl) (fun wS => (x_move (v := .int .i64 y12_2) (by rfl))) ?_
                            refine PR_free (by rfl) (by rfl) (by rfl) (by exact wn0 rfl) (fun wS => (x_fieldAddr fo25_0 (by rfl))) ?_
                            refine PR_take (by rfl) (by rfl) (by rfl) (by exact wn0 rfl) (fun wS (H : Sep ok w wS [.blk b17 25 [.int .i64 a0.W, .int .i64 a0.H, .slice A1 a0.Color.length cp2, .slice A5 a0.Depth.length cp6, .slice A9 a0.Item.length cp10, .slice A13 a0.Tri.length cp14], .blk b19 30 [.int .i64 a1.X0, .int .i64 a1.Y0, .int .i64 a1.X1, .int .i64 a1.Y1], .blk b33 28 [.slice A30 v28.1.Levels.length cp31], .blk b58 54 [.int .i64 el41.W, .int .i64 el41.H, .slice A53 el41.Low.length cp54], .row (.slice A_row82_2 l_row82_2.length c_row82_2) 3 kInt.sz l_row82_2.length cs_row82_2] [RE.rd k_Ar4_Int A1 cp2 a0.Color, RE.rd kInt A5 cp6 a0.Depth, RE.rd kInt A9 cp10 a0.Item, RE.rd kInt A13 cp14 a0.Tri, RE.rd k_Level A30 cp31 v28.1.Levels, RE.cells g46 (o47 + (y9_1).toNat * 3) [.int .i64 el41.W, .int .i64 el41.H, .slice A53 el41.Low.length cp54], RE.rd kInt A53 cp54 el41.Low, RE.chunks kInt cs_row82_2 l_row82_2]) => (x_load (j := 0) (v := .int .i64 a0.W) sc3 (by rfl) (H.cells (i := 0) (by rfl)) (by rfl))) ?_
                            obtain ⟨nx87, hm⟩ := nz_some hm
                            obtain ⟨x87, ex87, qx87, ux87, hm⟩ := ck_some hm
                            refine PR_free (by rfl) (by rfl) (by rfl) (by exact wn0 rfl) (fun wS => (x_quo (by rfl) (by rfl) nx87 ux87)) ?_
                            refine PR_free (by rfl) (by rfl) (by rfl) (by exact wn0 rfl) (fun wS => (x_move (v := .int .i64 y8_1) (by rfl))) ?_
                            obtain ⟨nx88, hm⟩ := nz_some hm
                            obtain ⟨x88, ex88, qx88, ux88, hm⟩ := ck_some hm
                            refine PR_free (by rfl) (by rfl) (by rfl) (by exact wn0 rfl) (fun wS => (x_quo (by rfl) (by rfl) nx88 ux88)) ?_
                            refine PR_free (by rfl) (by rfl) (by rfl) (by exact wn0 rfl) (fun wS => (x_fieldAddr fo54_0 (by rfl))) ?_
                            refine PR_take (by rfl) (by rfl) (by rfl) (by exact wn0 rfl) (fun wS (H : Sep ok w wS [.blk b17 25 [.int .i64 a0.W, .int .i64 a0.H, .slice A1 a0.Color.length cp2, .slice A5 a0.Depth.length cp6, .slice A9 a0.Item.length cp10, .slice A13 a0.Tri.length cp14], .blk b19 30 [.int .i64 a1.X0, .int .i64 a1.Y0, .int .i64 a1.X1, .int .i64 a1.Y1], .blk b33 28 [.slice A30 v28.1.Levels.length cp31], .blk b58 54 [.int .i64 el41.W, .int .i64 el41.H, .slice A53 el41.Low.length cp54], .row (.slice A_row82_2 l_row82_2.length c_row82_2) 3 kInt.sz l_row82_2.length cs_row82_2] [RE.rd k_Ar4_Int A1 cp2 a0.Color, RE.rd kInt A5 cp6 a0.Depth, RE.rd kInt A9 cp10 a0.Item, RE.rd kInt A13 cp14 a0.Tri, RE.rd k_Level A30 cp31 v28.1.Levels, RE.cells g46 (o47 + (y9_1).toNat * 3) [.int .i64 el41.W, .int .i64 el41.H, .slice A53 el41.Low.length cp54], RE.rd kInt A53 cp54 el41.Low, RE.chunks kInt cs_row82_2 l_row82_2]) => (x_load (j := 0) (v := .int .i64 el41.W) sc3 (by rfl) (H.cells (i := 3) (by rfl)) (by rfl))) ?_
                            obtain ⟨x89, ex89, qx89, ux89, hm⟩ := ck_some hm
                            refine PR_free (by rfl) (by rfl) (by rfl) (by exact wn0 rfl) (fun wS => (x_mul (by rfl) (by rfl) ux89)) ?_
                            refine PR_free (by rfl) (by rfl) (by rfl) (by exact wn0 rfl) (fun wS => (x_move (v := .int .i64 y12_2) (by rfl))) ?_
                            refine PR_free (by rfl) (by rfl) (by rfl) (by exact wn0 rfl) (fun wS => (x_fieldAddr fo25_0 (by rfl))) ?_
                            refine PR_take (by rfl) (by rfl) (by rfl) (by exact wn0 rfl) (fun wS (H : Sep ok w wS [.blk b17 25 [.int .i64 a0.W, .int .i64 a0.H, .slice A1 a0.Color.length cp2, .slice A5 a0.Depth.length cp6, .slice A9 a0.Item.length cp10, .slice A13 a0.Tri.length cp14], .blk b19 30 [.int .i64 a1.X0, .int .i64 a1.Y0, .int .i64 a1.X1, .int .i64 a1.Y1], .blk b33 28 [.slice A30 v28.1.Levels.length cp31], .blk b58 54 [.int .i64 el41.W, .int .i64 el41.H, .slice A53 el41.Low.length cp54], .row (.slice A_row82_2 l_row82_2.length c_row82_2) 3 kInt.sz l_row82_2.length cs_row82_2] [RE.rd k_Ar4_Int A1 cp2 a0.Color, RE.rd kInt A5 cp6 a0.Depth, RE.rd kInt A9 cp10 a0.Item, RE.rd kInt A13 cp14 a0.Tri, RE.rd k_Level A30 cp31 v28.1.Levels, RE.cells g46 (o47 + (y9_1).toNat * 3) [.int .i64 el41.W, .int .i64 el41.H, .slice A53 el41.Low.length cp54], RE.rd kInt A53 cp54 el41.Low, RE.chunks kInt cs_row82_2 l_row82_2]) => (x_load (j := 0) (v := .int .i64 a0.W) sc3 (by rfl) (H.cells (i := 0) (by rfl)) (by rfl))) ?_
                            obtain ⟨nx90, hm⟩ := nz_some hm
                            refine PR_free (by rfl) (by rfl) (by rfl) (by exact wn0 rfl) (fun wS => (x_rem (by rfl) (by rfl) nx90)) ?_
                            refine PR_free (by rfl) (by rfl) (by rfl) (by exact wn0 rfl) (fun wS => (x_move (v := .int .i64 y8_1) (by rfl))) ?_
                            obtain ⟨nx91, hm⟩ := nz_some hm
                            obtain ⟨x91, ex91, qx91, ux91, hm⟩ := ck_some hm
                            refine PR_free (by rfl) (by rfl) (by rfl) (by exact wn0 rfl) (fun wS => (x_quo (by rfl) (by rfl) nx91 ux91)) ?_
                            obtain ⟨x92, ex92, qx92, ux92, hm⟩ := ck_some hm
                            refine PR_free (by rfl) (by rfl) (by rfl) (by exact wn0 rfl) (fun wS => (x_add (by rfl) (by rfl) ux92)) ?_
                            refine PR_free (by rfl) (by rfl) (by rfl) (by exact wn0 rfl) (fun wS => (x_assign (v := .int .i64 x92) (by rfl))) ?_
                            refine PR_nil ?_
                            refine W_seq ?_
                            refine W_seq ?_
                            refine W_region ?_
                            refine RL_pure (by exact wn0 rfl) (by rfl) (by rfl) (x_move (v := .int .i64 x92) (by rfl)) ?_
                            refine RL_pure (by exact wn0 rfl) (by rfl) (by rfl) (x_move (v := .slice A_row82_2 l_row82_2.length c_row82_2) (by rfl)) ?_
                            refine RL_pure (by exact wn0 rfl) (by rfl) (by rfl) (x_len sl23 (by rfl)) ?_
                            refine RL_pure (by exact wn0 rfl) (by rfl) (by rfl) (x_geq (by rfl) (by rfl)) ?_
                            refine RL_nil ?_
                            refine W_cond (by rfl) (fun hb => ?_) (fun hb => ?_)
                            · have hm := cond_t hb hm
                              refine W_seq ?_
                              refine W_region ?_
                              refine RL_pure (by exact wn0 rfl) (by rfl) (by rfl) (x_assign (v := .bool false) (by rfl)) ?_
                              refine RL_nil ?_
                              refine W_ret ?_
                              obtain rfl := Option.some.inj hm
                              exact ⟨[.bool false], (.tmp (by rfl) rfl), rfl, H.none_⟩
                            · have hm := cond_f hb hm
                              refine W_skip ?_
                              refine W_draw [.free 0, .free 1, .free 2, .free 3, .free 4, .take 5, .free 6, .take 7, .free 8, .free 9, .take 10, .free 11, .free 12, .free 13, .tail 14] (fun wS => Sep ok w wS [.blk b17 25 [.int .i64 a0.W, .int .i64 a0.H, .slice A1 a0.Color.length cp2, .slice A5 a0.Depth.length cp6, .slice A9 a0.Item.length cp10, .slice A13 a0.Tri.length cp14], .blk b19 30 [.int .i64 a1.X0, .int .i64 a1.Y0, .int .i64 a1.X1, .int .i64 a1.Y1], .blk b33 28 [.slice A30 v28.1.Levels.length cp31], .blk b58 54 [.int .i64 el41.W, .int .i64 el41.H, .slice A53 el41.Low.length cp54], .row (.slice A_row82_2 l_row82_2.length c_row82_2) 3 kInt.sz l_row82_2.length cs_row82_2] [RE.rd k_Ar4_Int A1 cp2 a0.Color, RE.rd kInt A5 cp6 a0.Depth, RE.rd kInt A9 cp10 a0.Item, RE.rd kInt A13 cp14 a0.Tri, RE.rd k_Level A30 cp31 v28.1.Levels, RE.cells g46 (o47 + (y9_1).toNat * 3) [.int .i64 el41.W, .int .i64 el41.H, .slice A53 el41.Low.length cp54], RE.rd kInt A53 cp54 el41.Low, RE.chunks kInt cs_row82_2 l_row82_2]) [14] [0, 1, 2, 3, 4, 6, 8, 9, 11, 12, 13] mixed0 (by kernel_rfl) (by kernel_rfl) (by kernel_rfl) (by rfl) (by exact H.drew) ?_
                              obtain ⟨w93, hW⟩ : ∃ W : World, W = { w86 with drawn := w86.drawn + 1 } := ⟨_, rfl⟩
                              rw [← hW]
                              have H : Sep ok w w93 [.blk b17 25 [.int .i64 a0.W, .int .i64 a0.H, .slice A1 a0.Color.length cp2, .slice A5 a0.Depth.length cp6, .slice A9 a0.Item.length cp10, .slice A13 a0.Tri.length cp14], .blk b19 30 [.int .i64 a1.X0, .int .i64 a1.Y0, .int .i64 a1.X1, .int .i64 a1.Y1], .blk b33 28 [.slice A30 v28.1.Levels.length cp31], .blk b58 54 [.int .i64 el41.W, .int .i64 el41.H, .slice A53 el41.Low.length cp54], .row (.slice A_row82_2 l_row82_2.length c_row82_2) 3 kInt.sz l_row82_2.length cs_row82_2] [RE.rd k_Ar4_Int A1 cp2 a0.Color, RE.rd kInt A5 cp6 a0.Depth, RE.rd kInt A9 cp10 a0.Item, RE.rd kInt A13 cp14 a0.Tri, RE.rd k_Level A30 cp31 v28.1.Levels, RE.cells g46 (o47 + (y9_1).toNat * 3) [.int .i64 el41.W, .int .i64 el41.H, .slice A53 el41.Low.length cp54], RE.rd kInt A53 cp54 el41.Low, RE.chunks kInt cs_row82_2 l_row82_2] := by rw [hW]; exact H.drew
                              clear hW
                              refine PR_free (by rfl) (by rfl) (by rfl) (by exact wn0 rfl) (fun wS => (x_move (v := .slice A_row82_2 l_row82_2.length c_row82_2) (by rfl))) ?_
                              refine PR_free (by rfl) (by rfl) (by rfl) (by exact wn0 rfl) (fun wS => (x_move (v := .int .i64 x92) (by rfl))) ?_
                              refine PR_free (by rfl) (by rfl) (by rfl) (by exact wn0 rfl) (fun wS => (x_move (v := .slice A_row82_2 l_row82_2.length c_row82_2) (by rfl))) ?_
                              refine PR_free (by rfl) (by rfl) (by rfl) (by exact wn0 rfl) (fun wS => (x_move (v := .int .i64 x92) (by rfl))) ?_
                              obtain ⟨el94, h95, h96, he97, hm⟩ := idx_some hm
                              obtain ⟨g99, _, hA98, _, _⟩ := H.rowIdx (i := 4) (j := 7) (by rfl) (by rfl) he97
                              refine PR_free (by rfl) (by rfl) (by rfl) (by exact wn0 rfl) (fun wS => (x_indexAddr sl23 sz3 (by rfl) (by rfl) hA98 h95 h96)) ?_
                              refine PR_take (by rfl) (by rfl) (by rfl) (by exact wn0 rfl) (fun wS (H : Sep ok w wS [.blk b17 25 [.int .i64 a0.W, .int .i64 a0.H, .slice A1 a0.Color.length cp2, .slice A5 a0.Depth.length cp6, .slice A9 a0.Item.length cp10, .slice A13 a0.Tri.length cp14], .blk b19 30 [.int .i64 a1.X0, .int .i64 a1.Y0, .int .i64 a1.X1, .int .i64 a1.Y1], .blk b33 28 [.slice A30 v28.1.Levels.length cp31], .blk b58 54 [.int .i64 el41.W, .int .i64 el41.H, .slice A53 el41.Low.length cp54], .row (.slice A_row82_2 l_row82_2.length c_row82_2) 3 kInt.sz l_row82_2.length cs_row82_2] [RE.rd k_Ar4_Int A1 cp2 a0.Color, RE.rd kInt A5 cp6 a0.Depth, RE.rd kInt A9 cp10 a0.Item, RE.rd kInt A13 cp14 a0.Tri, RE.rd k_Level A30 cp31 v28.1.Levels, RE.cells g46 (o47 + (y9_1).toNat * 3) [.int .i64 el41.W, .int .i64 el41.H, .slice A53 el41.Low.length cp54], RE.rd kInt A53 cp54 el41.Low, RE.chunks kInt cs_row82_2 l_row82_2]) => (x_load (j := 0) (v := .int .i64 el94) sc3 (by rfl) (H.rowFlatAt (n := 1) (i := 4) (j := 7) (by rfl) (by rfl) hA98 he97) (by rfl))) ?_
                              refine PR_free (by rfl) (by rfl) (by rfl) (by exact wn0 rfl) (fun wS => (x_fieldAddr fo25_3 (by rfl))) ?_
                              refine PR_take (by rfl) (by rfl) (by rfl) (by exact wn0 rfl) (fun wS (H : Sep ok w wS [.blk b17 25 [.int .i64 a0.W, .int .i64 a0.H, .slice A1 a0.Color.length cp2, .slice A5 a0.Depth.length cp6, .slice A9 a0.Item.length cp10, .slice A13 a0.Tri.length cp14], .blk b19 30 [.int .i64 a1.X0, .int .i64 a1.Y0, .int .i64 a1.X1, .int .i64 a1.Y1], .blk b33 28 [.slice A30 v28.1.Levels.length cp31], .blk b58 54 [.int .i64 el41.W, .int .i64 el41.H, .slice A53 el41.Low.length cp54], .row (.slice A_row82_2 l_row82_2.length c_row82_2) 3 kInt.sz l_row82_2.length cs_row82_2] [RE.rd k_Ar4_Int A1 cp2 a0.Color, RE.rd kInt A5 cp6 a0.Depth, RE.rd kInt A9 cp10 a0.Item, RE.rd kInt A13 cp14 a0.Tri, RE.rd k_Level A30 cp31 v28.1.Levels, RE.cells g46 (o47 + (y9_1).toNat * 3) [.int .i64 el41.W, .int .i64 el41.H, .slice A53 el41.Low.length cp54], RE.rd kInt A53 cp54 el41.Low, RE.chunks kInt cs_row82_2 l_row82_2]) => (x_load (j := 3) (v := .slice A5 a0.Depth.length cp6) sc23 (by rfl) (H.cells (i := 0) (by rfl)) (by rfl))) ?_
                              refine PR_free (by rfl) (by rfl) (by rfl) (by exact wn0 rfl) (fun wS => (x_move (v := .int .i64 y12_2) (by rfl))) ?_
                              obtain ⟨el101, h102, h103, he104, hm⟩ := idx_some hm
                              obtain ⟨g106, o107, hA105⟩ := (H.rd (i := 1) (by rfl)).addr he104
                              refine PR_free (by rfl) (by rfl) (by rfl) (by exact wn0 rfl) (fun wS => (x_indexAddr sl23 sz3 (by rfl) (by rfl) hA105 h102 h103)) ?_
                              refine PR_take (by rfl) (by rfl) (by rfl) (by exact wn0 rfl) (fun wS (H : Sep ok w wS [.blk b17 25 [.int .i64 a0.W, .int .i64 a0.H, .slice A1 a0.Color.length cp2, .slice A5 a0.Depth.length cp6, .slice A9 a0.Item.length cp10, .slice A13 a0.Tri.length cp14], .blk b19 30 [.int .i64 a1.X0, .int .i64 a1.Y0, .int .i64 a1.X1, .int .i64 a1.Y1], .blk b33 28 [.slice A30 v28.1.Levels.length cp31], .blk b58 54 [.int .i64 el41.W, .int .i64 el41.H, .slice A53 el41.Low.length cp54], .row (.slice A_row82_2 l_row82_2.length c_row82_2) 3 kInt.sz l_row82_2.length cs_row82_2] [RE.rd k_Ar4_Int A1 cp2 a0.Color, RE.rd kInt A5 cp6 a0.Depth, RE.rd kInt A9 cp10 a0.Item, RE.rd kInt A13 cp14 a0.Tri, RE.rd k_Level A30 cp31 v28.1.Levels, RE.cells g46 (o47 + (y9_1).toNat * 3) [.int .i64 el41.W, .int .i64 el41.H, .slice A53 el41.Low.length cp54], RE.rd kInt A53 cp54 el41.Low, RE.chunks kInt cs_row82_2 l_row82_2]) => (x_load (j := 0) (v := .int .i64 el101) sc3 (by rfl) (Rd.flatAt (n := 1) (H.rd (i := 1) (by rfl)) hA105 he104) (by rfl))) ?_
                              obtain ⟨x108, ex108, qx108, ux108, hm⟩ := ck_some hm
                              refine PR_free (by rfl) (by rfl) (by rfl) (by exact wn0 rfl) (fun wS => (x_sub (by rfl) (by rfl) ux108)) ?_
                              refine PR_free (by rfl) (by rfl) (by rfl) (by exact wn0 rfl) (fun wS => (x_min2 (by rfl) (by rfl))) ?_
                              obtain ⟨el109, h110, h111, he112, hm⟩ := idx_some hm
                              obtain ⟨g114, _, hA113, _, _⟩ := H.rowIdx (i := 4) (j := 7) (by rfl) (by rfl) he112
                              refine PR_free (by rfl) (by rfl) (by rfl) (by exact wn0 rfl) (fun wS => (x_indexAddr sl23 sz3 (by rfl) (by rfl) hA113 h110 h111)) ?_
                              obtain ⟨l118, hl119, hm⟩ := lete_some hm
                              refine PR_tail (by rfl) (O_storeRow (D := kInt) (i := 4) (j := 7) (off := 0) (m := x92) (a := el109) (b := (mn el94 x108)) (vs := [.int .i64 (mn el94 x108)]) (by exact wn0 rfl) H (by rfl) (by rfl) hA113 (by rfl) (by rfl) he112 (by rfl) sz3 (by rfl) (by rfl) (by intro ce hce; obtain rfl := hce; rfl) hl119 (fun w116 cs117 (H : Sep ok w w116 [.blk b17 25 [.int .i64 a0.W, .int .i64 a0.H, .slice A1 a0.Color.length cp2, .slice A5 a0.Depth.length cp6, .slice A9 a0.Item.length cp10, .slice A13 a0.Tri.length cp14], .blk b19 30 [.int .i64 a1.X0, .int .i64 a1.Y0, .int .i64 a1.X1, .int .i64 a1.Y1], .blk b33 28 [.slice A30 v28.1.Levels.length cp31], .blk b58 54 [.int .i64 el41.W, .int .i64 el41.H, .slice A53 el41.Low.length cp54], .row (.slice A_row82_2 l118.length c_row82_2) 3 kInt.sz l118.length cs117] [RE.rd k_Ar4_Int A1 cp2 a0.Color, RE.rd kInt A5 cp6 a0.Depth, RE.rd kInt A9 cp10 a0.Item, RE.rd kInt A13 cp14 a0.Tri, RE.rd k_Level A30 cp31 v28.1.Levels, RE.cells g46 (o47 + (y9_1).toNat * 3) [.int .i64 el41.W, .int .i64 el41.H, .slice A53 el41.Low.length cp54], RE.rd kInt A53 cp54 el41.Low, RE.chunks kInt cs117 l118]) => ?_))
                              refine PR_nil ?_
                              have hn120 : l_row82_2.length = l118.length := by rw [← hl119]; exact (List.length_set ..).symm
                              have H : Sep ok w w116 [.blk b17 25 [.int .i64 a0.W, .int .i64 a0.H, .slice A1 a0.Color.length cp2, .slice A5 a0.Depth.length cp6, .slice A9 a0.Item.length cp10, .slice A13 a0.Tri.length cp14], .blk b19 30 [.int .i64 a1.X0, .int .i64 a1.Y0, .int .i64 a1.X1, .int .i64 a1.Y1], .blk b33 28 [.slice A30 v28.1.Levels.length cp31], .blk b58 54 [.int .i64 el41.W, .int .i64 el41.H, .slice A53 el41.Low.length cp54], .row (.slice A_row82_2 l118.length c_row82_2) 3 kInt.sz l118.length cs117] [RE.rd k_Ar4_Int A1 cp2 a0.Color, RE.rd kInt A5 cp6 a0.Depth, RE.rd kInt A9 cp10 a0.Item, RE.rd kInt A13 cp14 a0.Tri, RE.rd k_Level A30 cp31 v28.1.Levels, RE.cells g46 (o47 + (y9_1).toNat * 3) [.int .i64 el41.W, .int .i64 el41.H, .slice A53 el41.Low.length cp54], RE.rd kInt A53 cp54 el41.Low, RE.chunks kInt cs117 l118] := by (try rw [hn120] at H); exact H
                              refine W_regen (l := [(2, .pointer (some ⟨b17, 0, none⟩)), (3, .pointer (some ⟨b19, 0, none⟩)), (5, .bool v22), (6, .pointer (some ⟨b33, 0, none⟩)), (8, .int .i64 y8_1), (9, .int .i64 y9_1), (10, .pointer (some ⟨b58, 0, none⟩)), (11, .slice A_row82_2 l118.length c_row82_2), (12, .int .i64 y12_2)]) ⟨rfl, rfl, rfl, rfl, rfl, rfl, rfl, (by (try rw [← hn120]); rfl), rfl, trivial⟩ fun r121 => ?_
                              refine W_region ?_
                              refine RL_pure (by exact wn0 rfl) (by rfl) (by rfl) (x_move (v := .int .i64 y12_2) (by rfl)) ?_
                              obtain ⟨x122, ex122, qx122, ux122, hm⟩ := ck_some hm
                              refine RL_pure (by exact wn0 rfl) (by rfl) (by rfl) (x_add (by rfl) (by rfl) ux122) ?_
                              refine RL_pure (by exact wn0 rfl) (by rfl) (by rfl) (x_assign (v := .int .i64 x122) (by rfl)) ?_
                              refine RL_nil ?_
                              subst hrec2
                              exact ⟨k2, Nat.lt_succ_self k2, l118, x122, A_row82_2, c_row82_2, cs117, hm, ⟨rfl, rfl, rfl, rfl, rfl, rfl, rfl, rfl, rfl, trivial⟩, H⟩
                          · have hm := cond_f hb hm
                            refine W_exit ?_
                            refine W_seq ?_
                            refine W_seq ?_
                            refine W_region ?_
                            refine RL_pure (by exact wn0 rfl) (by rfl) (by rfl) (x_assign (v := .int .i64 0) (by rfl)) ?_
                            refine RL_nil ?_
                            refine W_block ?_
                            refine W_loop (fun k3 r' w' => ∃ (y14_3 : Int), ∃ (A_row82_2 : Option Addr), ∃ (c_row82_2 : Nat), ∃ (cs_row82_2 : List Value), m5_l3 K y8_1 y9_1 rec1 el41 l_row82_2 k3 y14_3 = some res ∧ Agr [(2, .pointer (some ⟨b17, 0, none⟩)), (3, .pointer (some ⟨b19, 0, none⟩)), (5, .bool v22), (6, .pointer (some ⟨b33, 0, none⟩)), (8, .int .i64 y8_1), (9, .int .i64 y9_1), (10, .pointer (some ⟨b58, 0, none⟩)), (11, .slice A_row82_2 l_row82_2.length c_row82_2), (14, .int .i64 y14_3)] r' ∧ Sep ok w w' [.blk b17 25 [.int .i64 a0.W, .int .i64 a0.H, .slice A1 a0.Color.length cp2, .slice A5 a0.Depth.length cp6, .slice A9 a0.Item.length cp10, .slice A13 a0.Tri.length cp14], .blk b19 30 [.int .i64 a1.X0, .int .i64 a1.Y0, .int .i64 a1.X1, .int .i64 a1.Y1], .blk b33 28 [.slice A30 v28.1.Levels.length cp31], .blk b58 54 [.int .i64 el41.W, .int .i64 el41.H, .slice A53 el41.Low.length cp54], .row (.slice A_row82_2 l_row82_2.length c_row82_2) 3 kInt.sz l_row82_2.length cs_row82_2] [RE.rd k_Ar4_Int A1 cp2 a0.Color, RE.rd kInt A5 cp6 a0.Depth, RE.rd kInt A9 cp10 a0.Item, RE.rd kInt A13 cp14 a0.Tri, RE.rd k_Level A30 cp31 v28.1.Levels, RE.cells g46 (o47 + (y9_1).toNat * 3) [.int .i64 el41.W, .int .i64 el41.H, .slice A53 el41.Low.length cp54], RE.rd kInt A53 cp54 el41.Low, RE.chunks kInt cs_row82_2 l_row82_2]) K ?_ ?_
                            · exact ⟨0, A_row82_2, c_row82_2, cs_row82_2, hm, ⟨rfl, rfl, rfl, rfl, rfl, rfl, rfl, rfl, rfl, trivial⟩, H⟩
                            · rintro k3 r' w' ⟨y14_3, A_row82_2, c_row82_2, cs_row82_2, hm, hA, H⟩
                              obtain ⟨r123, rfl⟩ := regen _ hA; clear hA
                              obtain ⟨w124, rfl⟩ : ∃ W : World, W = w' := ⟨_, rfl⟩
                              cases k3 with
                              | zero => exact (none_some hm).elim
                              | succ k3 =>
                                have hm : m5_l3b K y8_1 y9_1 rec1 el41 l_row82_2 (m5_l3 K y8_1 y9_1 rec1 el41 l_row82_2 k3) y14_3 = some res := hm
                                unfold m5_l3b at hm
                                obtain ⟨rec3, hrec3⟩ : ∃ f, m5_l3 K y8_1 y9_1 rec1 el41 l_row82_2 k3 = f := ⟨_, rfl⟩
                                rw [hrec3] at hm
                                refine W_seq ?_
                                refine W_seq ?_
                                refine W_region ?_
                                refine RL_pure (by exact wn0 rfl) (by rfl) (by rfl) (x_move (v := .int .i64 y14_3) (by rfl)) ?_
                                refine RL_pure (by exact wn0 rfl) (by rfl) (by rfl) (x_move (v := .slice A_row82_2 l_row82_2.length c_row82_2) (by rfl)) ?_
                                refine RL_pure (by exact wn0 rfl) (by rfl) (by rfl) (x_len sl23 (by rfl)) ?_
                                refine RL_pure (by exact wn0 rfl) (by rfl) (by rfl) (x_lss (by rfl) (by rfl)) ?_
                                refine RL_nil ?_
                                refine W_cond (by rfl) (fun hb => ?_) (fun hb => ?_)
                                · have hm := cond_t hb hm
                                  refine W_skip ?_
                                  refine W_seq ?_
                                  refine W_block ?_
                                  refine W_seq ?_
                                  refine W_draw [.free 0, .free 1, .free 2, .take 3, .free 4, .free 5, .take 6, .free 7, .free 8, .take 9, .free 10] (fun wS => Sep ok w wS [.blk b17 25 [.int .i64 a0.W, .int .i64 a0.H, .slice A1 a0.Color.length cp2, .slice A5 a0.Depth.length cp6, .slice A9 a0.Item.length cp10, .slice A13 a0.Tri.length cp14], .blk b19 30 [.int .i64 a1.X0, .int .i64 a1.Y0, .int .i64 a1.X1, .int .i64 a1.Y1], .blk b33 28 [.slice A30 v28.1.Levels.length cp31], .blk b58 54 [.int .i64 el41.W, .int .i64 el41.H, .slice A53 el41.Low.length cp54], .row (.slice A_row82_2 l_row82_2.length c_row82_2) 3 kInt.sz l_row82_2.length cs_row82_2] [RE.rd k_Ar4_Int A1 cp2 a0.Color, RE.rd kInt A5 cp6 a0.Depth, RE.rd kInt A9 cp10 a0.Item, RE.rd kInt A13 cp14 a0.Tri, RE.rd k_Level A30 cp31 v28.1.Levels, RE.cells g46 (o47 + (y9_1).toNat * 3) [.int .i64 el41.W, .int .i64 el41.H, .slice A53 el41.Low.length cp54], RE.rd kInt A53 cp54 el41.Low, RE.chunks kInt cs_row82_2 l_row82_2]) [] [0, 1, 2, 4, 5, 7, 8, 10] mixed0 (by kernel_rfl) (by kernel_rfl) (by kernel_rfl) (by rfl) (by exact H.drew) ?_
                                  obtain ⟨w125, hW⟩ : ∃ W : World, W = { w124 with drawn := w124.drawn + 1 } := ⟨_, rfl⟩
                                  rw [← hW]
                                  have H : Sep ok w w125 [.blk b17 25 [.int .i64 a0.W, .int .i64 a0.H, .slice A1 a0.Color.length cp2, .slice A5 a0.Depth.length cp6, .slice A9 a0.Item.length cp10, .slice A13 a0.Tri.length cp14], .blk b19 30 [.int .i64 a1.X0, .int .i64 a1.Y0, .int .i64 a1.X1, .int .i64 a1.Y1], .blk b33 28 [.slice A30 v28.1.Levels.length cp31], .blk b58 54 [.int .i64 el41.W, .int .i64 el41.H, .slice A53 el41.Low.length cp54], .row (.slice A_row82_2 l_row82_2.length c_row82_2) 3 kInt.sz l_row82_2.length cs_row82_2] [RE.rd k_Ar4_Int A1 cp2 a0.Color, RE.rd kInt A5 cp6 a0.Depth, RE.rd kInt A9 cp10 a0.Item, RE.rd kInt A13 cp14 a0.Tri, RE.rd k_Level A30 cp31 v28.1.Levels, RE.cells g46 (o47 + (y9_1).toNat * 3) [.int .i64 el41.W, .int .i64 el41.H, .slice A53 el41.Low.length cp54], RE.rd kInt A53 cp54 el41.Low, RE.chunks kInt cs_row82_2 l_row82_2] := by rw [hW]; exact H.drew
                                  clear hW
                                  refine PR_free (by rfl) (by rfl) (by rfl) (by exact wn0 rfl) (fun wS => (x_move (v := .slice A_row82_2 l_row82_2.length c_row82_2) (by rfl))) ?_
                                  refine PR_free (by rfl) (by rfl) (by rfl) (by exact wn0 rfl) (fun wS => (x_move (v := .int .i64 y14_3) (by rfl))) ?_
                                  obtain ⟨el126, h127, h128, he129, hm⟩ := idx_some hm
                                  obtain ⟨g131, _, hA130, _, _⟩ := H.rowIdx (i := 4) (j := 7) (by rfl) (by rfl) he129
                                  refine PR_free (by rfl) (by rfl) (by rfl) (by exact wn0 rfl) (fun wS => (x_indexAddr sl23 sz3 (by rfl) (by rfl) hA130 h127 h128)) ?_
                                  refine PR_take (by rfl) (by rfl) (by rfl) (by exact wn0 rfl) (fun wS (H : Sep ok w wS [.blk b17 25 [.int .i64 a0.W, .int .i64 a0.H, .slice A1 a0.Color.length cp2, .slice A5 a0.Depth.length cp6, .slice A9 a0.Item.length cp10, .slice A13 a0.Tri.length cp14], .blk b19 30 [.int .i64 a1.X0, .int .i64 a1.Y0, .int .i64 a1.X1, .int .i64 a1.Y1], .blk b33 28 [.slice A30 v28.1.Levels.length cp31], .blk b58 54 [.int .i64 el41.W, .int .i64 el41.H, .slice A53 el41.Low.length cp54], .row (.slice A_row82_2 l_row82_2.length c_row82_2) 3 kInt.sz l_row82_2.length cs_row82_2] [RE.rd k_Ar4_Int A1 cp2 a0.Color, RE.rd kInt A5 cp6 a0.Depth, RE.rd kInt A9 cp10 a0.Item, RE.rd kInt A13 cp14 a0.Tri, RE.rd k_Level A30 cp31 v28.1.Levels, RE.cells g46 (o47 + (y9_1).toNat * 3) [.int .i64 el41.W, .int .i64 el41.H, .slice A53 el41.Low.length cp54], RE.rd kInt A53 cp54 el41.Low, RE.chunks kInt cs_row82_2 l_row82_2]) => (x_load (j := 0) (v := .int .i64 el126) sc3 (by rfl) (H.rowFlatAt (n := 1) (i := 4) (j := 7) (by rfl) (by rfl) hA130 he129) (by rfl))) ?_
                                  obtain ⟨x133, ex133, qx133, ux133, hm⟩ := ck_some hm
                                  refine PR_free (by rfl) (by rfl) (by rfl) (by exact wn0 rfl) (fun wS => (x_add (by rfl) (by rfl) ux133)) ?_
                                  refine PR_free (by rfl) (by rfl) (by rfl) (by exact wn0 rfl) (fun wS => (x_fieldAddr fo54_2 (by rfl))) ?_
                                  refine PR_take (by rfl) (by rfl) (by rfl) (by exact wn0 rfl) (fun wS (H : Sep ok w wS [.blk b17 25 [.int .i64 a0.W, .int .i64 a0.H, .slice A1 a0.Color.length cp2, .slice A5 a0.Depth.length cp6, .slice A9 a0.Item.length cp10, .slice A13 a0.Tri.length cp14], .blk b19 30 [.int .i64 a1.X0, .int .i64 a1.Y0, .int .i64 a1.X1, .int .i64 a1.Y1], .blk b33 28 [.slice A30 v28.1.Levels.length cp31], .blk b58 54 [.int .i64 el41.W, .int .i64 el41.H, .slice A53 el41.Low.length cp54], .row (.slice A_row82_2 l_row82_2.length c_row82_2) 3 kInt.sz l_row82_2.length cs_row82_2] [RE.rd k_Ar4_Int A1 cp2 a0.Color, RE.rd kInt A5 cp6 a0.Depth, RE.rd kInt A9 cp10 a0.Item, RE.rd kInt A13 cp14 a0.Tri, RE.rd k_Level A30 cp31 v28.1.Levels, RE.cells g46 (o47 + (y9_1).toNat * 3) [.int .i64 el41.W, .int .i64 el41.H, .slice A53 el41.Low.length cp54], RE.rd kInt A53 cp54 el41.Low, RE.chunks kInt cs_row82_2 l_row82_2]) => (x_load (j := 2) (v := .slice A53 el41.Low.length cp54) sc23 (by rfl) (H.cells (i := 3) (by rfl)) (by rfl))) ?_
                                  refine PR_free (by rfl) (by rfl) (by rfl) (by exact wn0 rfl) (fun wS => (x_move (v := .int .i64 y14_3) (by rfl))) ?_
                                  obtain ⟨el134, h135, h136, he137, hm⟩ := idx_some hm
                                  obtain ⟨g139, o140, hA138⟩ := (H.rd (i := 6) (by rfl)).addr he137
                                  refine PR_free (by rfl) (by rfl) (by rfl) (by exact wn0 rfl) (fun wS => (x_indexAddr sl23 sz3 (by rfl) (by rfl) hA138 h135 h136)) ?_
                                  refine PR_take (by rfl) (by rfl) (by rfl) (by exact wn0 rfl) (fun wS (H : Sep ok w wS [.blk b17 25 [.int .i64 a0.W, .int .i64 a0.H, .slice A1 a0.Color.length cp2, .slice A5 a0.Depth.length cp6, .slice A9 a0.Item.length cp10, .slice A13 a0.Tri.length cp14], .blk b19 30 [.int .i64 a1.X0, .int .i64 a1.Y0, .int .i64 a1.X1, .int .i64 a1.Y1], .blk b33 28 [.slice A30 v28.1.Levels.length cp31], .blk b58 54 [.int .i64 el41.W, .int .i64 el41.H, .slice A53 el41.Low.length cp54], .row (.slice A_row82_2 l_row82_2.length c_row82_2) 3 kInt.sz l_row82_2.length cs_row82_2] [RE.rd k_Ar4_Int A1 cp2 a0.Color, RE.rd kInt A5 cp6 a0.Depth, RE.rd kInt A9 cp10 a0.Item, RE.rd kInt A13 cp14 a0.Tri, RE.rd k_Level A30 cp31 v28.1.Levels, RE.cells g46 (o47 + (y9_1).toNat * 3) [.int .i64 el41.W, .int .i64 el41.H, .slice A53 el41.Low.length cp54], RE.rd kInt A53 cp54 el41.Low, RE.chunks kInt cs_row82_2 l_row82_2]) => (x_load (j := 0) (v := .int .i64 el134) sc3 (by rfl) (Rd.flatAt (n := 1) (H.rd (i := 6) (by rfl)) hA138 he137) (by rfl))) ?_
                                  refine PR_free (by rfl) (by rfl) (by rfl) (by exact wn0 rfl) (fun wS => (x_neq (by rfl) (by rfl))) ?_
                                  refine PR_nil ?_
                                  refine W_cond (by rfl) (fun hb => ?_) (fun hb => ?_)
                                  · have hm := cond_t hb hm
                                    refine W_seq ?_
                                    refine W_region ?_
                                    refine RL_pure (by exact wn0 rfl) (by rfl) (by rfl) (x_assign (v := .bool false) (by rfl)) ?_
                                    refine RL_nil ?_
                                    refine W_ret ?_
                                    obtain rfl := Option.some.inj hm
                                    exact ⟨[.bool false], (.tmp (by rfl) rfl), rfl, H.none_⟩
                                  · have hm := cond_f hb hm
                                    refine W_skip ?_
                                    refine W_region ?_
                                    refine RL_pure (by exact wn0 rfl) (by rfl) (by rfl) (x_move (v := .int .i64 y14_3) (by rfl)) ?_
                                    obtain ⟨x141, ex141, qx141, ux141, hm⟩ := ck_some hm
                                    refine RL_pure (by exact wn0 rfl) (by rfl) (by rfl) (x_add (by rfl) (by rfl) ux141) ?_
                                    refine RL_pure (by exact wn0 rfl) (by rfl) (by rfl) (x_assign (v := .int .i64 x141) (by rfl)) ?_
                                    refine RL_nil ?_
                                    subst hrec3
                                    exact ⟨k3, Nat.lt_succ_self k3, x141, A_row82_2, c_row82_2, cs_row82_2, hm, ⟨rfl, rfl, rfl, rfl, rfl, rfl, rfl, rfl, rfl, trivial⟩, H⟩
                                · have hm := cond_f hb hm
                                  refine W_exit ?_
                                  refine W_region ?_
                                  refine RL_pure (by exact wn0 rfl) (by rfl) (by rfl) (x_move (v := .int .i64 y8_1) (by rfl)) ?_
                                  obtain ⟨x142, ex142, qx142, ux142, hm⟩ := ck_some hm
                                  refine RL_pure (by exact wn0 rfl) (by rfl) (by rfl) (x_mul (by rfl) (by rfl) ux142) ?_
                                  refine RL_pure (by exact wn0 rfl) (by rfl) (by rfl) (x_assign (v := .int .i64 x142) (by rfl)) ?_
                                  refine RL_nil ?_
                                  refine W_region ?_
                                  refine RL_pure (by exact wn0 rfl) (by rfl) (by rfl) (x_move (v := .int .i64 y9_1) (by rfl)) ?_
                                  obtain ⟨x143, ex143, qx143, ux143, hm⟩ := ck_some hm
                                  refine RL_pure (by exact wn0 rfl) (by rfl) (by rfl) (x_add (by rfl) (by rfl) ux143) ?_
                                  refine RL_pure (by exact wn0 rfl) (by rfl) (by rfl) (x_assign (v := .int .i64 x143) (by rfl)) ?_
                                  refine RL_nil ?_
                                  subst hrec1
                                  exact ⟨k1, Nat.lt_succ_self k1, x142, x143, hm, ⟨rfl, rfl, rfl, rfl, rfl, rfl, trivial⟩, ((H).takeL 3).pick [0, 1, 2, 3, 4]⟩
            · have hm := cond_f hb hm
              refine W_exit ?_
              refine W_seq ?_
              refine W_region ?_
              refine RL_pure (by exact wn0 rfl) (by rfl) (by rfl) (x_loadA (j := 0) (vs := [.slice A30 v28.1.Levels.length cp31]) ag28 (by rfl) (H.cells (i := 2) (by rfl)) (by rfl) (by rfl)) ?_
              refine RL_pure (by exact wn0 rfl) (by rfl) (by rfl) (x_loadA (j := 0) (vs := [.int .i64 a1.X0, .int .i64 a1.Y0, .int .i64 a1.X1, .int .i64 a1.Y1]) ag30 (by rfl) (H.cells (i := 1) (by rfl)) (by rfl) (by rfl)) ?_
              obtain ⟨v145, hv144, hm⟩ := bind_some hm
              refine RL_cons (O_call (by exact wn0 rfl) (by rfl) (by rfl) (x_callL (by rfl) (args := [.agg #[.slice A30 v28.1.Levels.length cp31], .agg #[.int .i64 a1.X0, .int .i64 a1.Y0, .int .i64 a1.X1, .int .i64 a1.Y1]]) (by rfl) (cf17 _ _)) (c17 (fun _ => True) K w40 v28.1 A30 cp31 a1 (H.rd (i := 4) (by rfl)).any v145 hv144) ?_)
              rintro e w146 ⟨rfl, H2⟩
              have H : Sep ok w w146 [.blk b17 25 [.int .i64 a0.W, .int .i64 a0.H, .slice A1 a0.Color.length cp2, .slice A5 a0.Depth.length cp6, .slice A9 a0.Item.length cp10, .slice A13 a0.Tri.length cp14], .blk b19 30 [.int .i64 a1.X0, .int .i64 a1.Y0, .int .i64 a1.X1, .int .i64 a1.Y1], .blk b33 28 [.slice A30 v28.1.Levels.length cp31]] [RE.rd k_Ar4_Int A1 cp2 a0.Color, RE.rd kInt A5 cp6 a0.Depth, RE.rd kInt A9 cp10 a0.Item, RE.rd kInt A13 cp14 a0.Tri, RE.rd k_Level A30 cp31 v28.1.Levels] := H.below H2.base
              clear H2
              refine ⟨_, rfl, ?_⟩
              show RL _ _ _ _ _ _ _
              refine RL_pure (by exact wn0 rfl) (by rfl) (by rfl) (x_move (v := tup [.int .i64 v145.1, .int .i64 v145.2]) (by rfl)) ?_
              refine RL_pure (by exact wn0 rfl) (by rfl) (by rfl) (x_extract (v := .int .i64 v145.1) (by rfl) (by rfl)) ?_
              refine RL_pure (by exact wn0 rfl) (by rfl) (by rfl) (x_extract (v := .int .i64 v145.2) (by rfl) (by rfl)) ?_
              refine RL_pure (by exact wn0 rfl) (by rfl) (by rfl) (x_assign (v := .int .i64 v145.1) (by rfl)) ?_
              refine RL_pure (by exact wn0 rfl) (by rfl) (by rfl) (x_assign (v := .int .i64 v145.2) (by rfl)) ?_
              refine RL_nil ?_
              refine W_seq ?_
              refine W_seq ?_
              refine W_region ?_
              refine RL_pure (by exact wn0 rfl) (by rfl) (by rfl) (x_move (v := .int .i64 v145.2) (by rfl)) ?_
              refine RL_pure (by exact wn0 rfl) (by rfl) (by rfl) (x_neq (by rfl) (by rfl)) ?_
              refine RL_nil ?_
              refine W_cond (by rfl) (fun hb => ?_) (fun hb => ?_)
              · have hm := cond_t hb hm
                refine W_seq ?_
                refine W_region ?_
                refine RL_pure (by exact wn0 rfl) (by rfl) (by rfl) (x_move (v := .bool v22) (by rfl)) ?_
                refine RL_pure (by exact wn0 rfl) (by rfl) (by rfl) (x_move (v := .bool v22) (by rfl)) ?_
                obtain ⟨b147, hmS, hm⟩ := bind_some hm
                refine RL_cut 3 (fun r' w' => Agr [(163, .bool b147)] r' ∧ Sep ok w w' [.blk b17 25 [.int .i64 a0.W, .int .i64 a0.H, .slice A1 a0.Color.length cp2, .slice A5 a0.Depth.length cp6, .slice A9 a0.Item.length cp10, .slice A13 a0.Tri.length cp14], .blk b19 30 [.int .i64 a1.X0, .int .i64 a1.Y0, .int .i64 a1.X1, .int .i64 a1.Y1], .blk b33 28 [.slice A30 v28.1.Levels.length cp31]] [RE.rd k_Ar4_Int A1 cp2 a0.Color, RE.rd kInt A5 cp6 a0.Depth, RE.rd kInt A9 cp10 a0.Item, RE.rd kInt A13 cp14 a0.Tri, RE.rd k_Level A30 cp31 v28.1.Levels]) ?_ ?_
                · cases hbS : v22
                  · have hm := cond_f hbS hmS
                    refine RL_cons (OpR_off (by exact wn2 rfl rfl rfl rfl) (by rfl) (by rfl) ?_)
                    refine RL_cons (OpR_off (by exact wn2 rfl rfl rfl rfl) (by rfl) (by rfl) ?_)
                    refine RL_pure (by exact wn0 rfl) (by rfl) (by rfl) (x_pick_f (v := .bool false) (by rfl) (by rfl)) ?_
                    refine RL_nil ?_
                    exact ⟨⟨congrArg Value.bool (Option.some.inj hm), trivial⟩, H⟩
                  · have hm := cond_t hbS hmS
                    refine RL_pure (by exact wn1 rfl rfl rfl rfl) (by rfl) (by rfl) (x_move (v := .int .i64 v145.1) (by rfl)) ?_
                    refine RL_pure (by exact wn1 rfl rfl rfl rfl) (by rfl) (by rfl) (x_eql (by rfl) (by rfl)) ?_
                    refine RL_pure (by exact wn0 rfl) (by rfl) (by rfl) (x_pick_t (v := .bool (v145.1 == 0)) (by rfl) (by rfl)) ?_
                    refine RL_nil ?_
                    exact ⟨⟨congrArg Value.bool (Option.some.inj hm), trivial⟩, H⟩
                · rintro r' w' ⟨hA, H⟩
                  obtain ⟨r148, rfl⟩ := regen _ hA; clear hA
                  obtain ⟨w149, rfl⟩ : ∃ W : World, W = w' := ⟨_, rfl⟩
                  show RL _ _ _ _ _ _ _
                  refine RL_pure (by exact wn0 rfl) (by rfl) (by rfl) (x_assign (v := .bool b147) (by rfl)) ?_
                  refine RL_nil ?_
                  refine W_ret ?_
                  obtain rfl := Option.some.inj hm
                  exact ⟨[.bool b147], (.tmp (by rfl) rfl), rfl, H.none_⟩
              · have hm := cond_f hb hm
                refine W_skip ?_
                refine W_seq ?_
                refine W_region ?_
                refine RL_pure (by exact wn0 rfl) (by rfl) (by rfl) (x_assign (v := .int .i64 1048576) (by rfl)) ?_
                refine RL_nil ?_
                refine W_seq ?_
                refine W_seq ?_
                refine W_region ?_
                refine RL_pure (by exact wn0 rfl) (by rfl) (by rfl) (x_assign (v := .int .i64 0) (by rfl)) ?_
                refine RL_nil ?_
                refine W_block ?_
                refine W_loop (fun k4 r' w' => ∃ (y17_4 : Int), ∃ (y18_4 : Int), m5_l4 K a0 a1 v22 v145 k4 y17_4 y18_4 = some res ∧ Agr [(2, .pointer (some ⟨b17, 0, none⟩)), (3, .pointer (some ⟨b19, 0, none⟩)), (5, .bool v22), (15, .int .i64 v145.1), (17, .int .i64 y17_4), (18, .int .i64 y18_4)] r' ∧ Sep ok w w' [.blk b17 25 [.int .i64 a0.W, .int .i64 a0.H, .slice A1 a0.Color.length cp2, .slice A5 a0.Depth.length cp6, .slice A9 a0.Item.length cp10, .slice A13 a0.Tri.length cp14], .blk b19 30 [.int .i64 a1.X0, .int .i64 a1.Y0, .int .i64 a1.X1, .int .i64 a1.Y1], .blk b33 28 [.slice A30 v28.1.Levels.length cp31]] [RE.rd k_Ar4_Int A1 cp2 a0.Color, RE.rd kInt A5 cp6 a0.Depth, RE.rd kInt A9 cp10 a0.Item, RE.rd kInt A13 cp14 a0.Tri, RE.rd k_Level A30 cp31 v28.1.Levels]) K ?_ ?_
                · exact ⟨1048576, 0, hm, ⟨rfl, rfl, rfl, rfl, rfl, rfl, trivial⟩, H⟩
                · rintro k4 r' w' ⟨y17_4, y18_4, hm, hA, H⟩
                  obtain ⟨r150, rfl⟩ := regen _ hA; clear hA
                  obtain ⟨w151, rfl⟩ : ∃ W : World, W = w' := ⟨_, rfl⟩
                  cases k4 with
                  | zero => exact (none_some hm).elim
                  | succ k4 =>
                    have hm : m5_l4b K a0 a1 v22 v145 (m5_l4 K a0 a1 v22 v145 k4) y17_4 y18_4 = some res := hm
                    unfold m5_l4b at hm
                    obtain ⟨rec4, hrec4⟩ : ∃ f, m5_l4 K a0 a1 v22 v145 k4 = f := ⟨_, rfl⟩
                    rw [hrec4] at hm
                    refine W_seq ?_
                    refine W_seq ?_
                    refine W_region ?_
                    refine RL_pure (by exact wn0 rfl) (by rfl) (by rfl) (x_move (v := .int .i64 y18_4) (by rfl)) ?_
                    refine RL_pure (by exact wn0 rfl) (by rfl) (by rfl) (x_fieldAddr fo25_3 (by rfl)) ?_
                    refine RL_pure (by exact wn0 rfl) (by rfl) (by rfl) (x_load (j := 3) (v := .slice A5 a0.Depth.length cp6) sc23 (by rfl) (H.cells (i := 0) (by rfl)) (by rfl)) ?_
                    refine RL_pure (by exact wn0 rfl) (by rfl) (by rfl) (x_len sl23 (by rfl)) ?_
                    refine RL_pure (by exact wn0 rfl) (by rfl) (by rfl) (x_lss (by rfl) (by rfl)) ?_
                    refine RL_nil ?_
                    refine W_cond (by rfl) (fun hb => ?_) (fun hb => ?_)
                    · have hm := cond_t hb hm
                      refine W_skip ?_
                      refine W_seq ?_
                      refine W_block ?_
                      refine W_seq ?_
                      refine W_draw [.free 0, .free 1, .take 2, .free 3, .free 4, .take 5, .free 6, .free 7, .free 8, .free 9, .take 10, .free 11, .free 12, .take 13, .free 14, .free 15, .free 16, .free 17, .free 18, .take 19, .free 20, .free 21, .take 22, .free 23, .free 24, .free 25, .free 26, .free 27, .take 28, .free 29, .free 30, .take 31, .free 32, .free 33] (fun wS => Sep ok w wS [.blk b17 25 [.int .i64 a0.W, .int .i64 a0.H, .slice A1 a0.Color.length cp2, .slice A5 a0.Depth.length cp6, .slice A9 a0.Item.length cp10, .slice A13 a0.Tri.length cp14], .blk b19 30 [.int .i64 a1.X0, .int .i64 a1.Y0, .int .i64 a1.X1, .int .i64 a1.Y1], .blk b33 28 [.slice A30 v28.1.Levels.length cp31]] [RE.rd k_Ar4_Int A1 cp2 a0.Color, RE.rd kInt A5 cp6 a0.Depth, RE.rd kInt A9 cp10 a0.Item, RE.rd kInt A13 cp14 a0.Tri, RE.rd k_Level A30 cp31 v28.1.Levels]) [] [0, 1, 3, 4, 6, 7, 8, 9, 11, 12, 14, 15, 16, 17, 18, 20, 21, 23, 24, 25, 26, 27, 29, 30, 32, 33] mixed0 (by kernel_rfl) (by kernel_rfl) (by kernel_rfl) (by rfl) (by exact H.drew) ?_
                      obtain ⟨w152, hW⟩ : ∃ W : World, W = { w151 with drawn := w151.drawn + 1 } := ⟨_, rfl⟩
                      rw [← hW]
                      have H : Sep ok w w152 [.blk b17 25 [.int .i64 a0.W, .int .i64 a0.H, .slice A1 a0.Color.length cp2, .slice A5 a0.Depth.length cp6, .slice A9 a0.Item.length cp10, .slice A13 a0.Tri.length cp14], .blk b19 30 [.int .i64 a1.X0, .int .i64 a1.Y0, .int .i64 a1.X1, .int .i64 a1.Y1], .blk b33 28 [.slice A30 v28.1.Levels.length cp31]] [RE.rd k_Ar4_Int A1 cp2 a0.Color, RE.rd kInt A5 cp6 a0.Depth, RE.rd kInt A9 cp10 a0.Item, RE.rd kInt A13 cp14 a0.Tri, RE.rd k_Level A30 cp31 v28.1.Levels] := by rw [hW]; exact H.drew
                      clear hW
                      refine PR_free (by rfl) (by rfl) (by rfl) (by exact wn0 rfl) (fun wS => (x_move (v := .int .i64 y18_4) (by rfl))) ?_
                      refine PR_free (by rfl) (by rfl) (by rfl) (by exact wn0 rfl) (fun wS => (x_fieldAddr fo25_0 (by rfl))) ?_
                      refine PR_take (by rfl) (by rfl) (by rfl) (by exact wn0 rfl) (fun wS (H : Sep ok w wS [.blk b17 25 [.int .i64 a0.W, .int .i64 a0.H, .slice A1 a0.Color.length cp2, .slice A5 a0.Depth.length cp6, .slice A9 a0.Item.length cp10, .slice A13 a0.Tri.length cp14], .blk b19 30 [.int .i64 a1.X0, .int .i64 a1.Y0, .int .i64 a1.X1, .int .i64 a1.Y1], .blk b33 28 [.slice A30 v28.1.Levels.length cp31]] [RE.rd k_Ar4_Int A1 cp2 a0.Color, RE.rd kInt A5 cp6 a0.Depth, RE.rd kInt A9 cp10 a0.Item, RE.rd kInt A13 cp14 a0.Tri, RE.rd k_Level A30 cp31 v28.1.Levels]) => (x_load (j := 0) (v := .int .i64 a0.W) sc3 (by rfl) (H.cells (i := 0) (by rfl)) (by rfl))) ?_
                      obtain ⟨nx153, hm⟩ := nz_some hm
                      refine PR_free (by rfl) (by rfl) (by rfl) (by exact wn0 rfl) (fun wS => (x_rem (by rfl) (by rfl) nx153)) ?_
                      refine PR_free (by rfl) (by rfl) (by rfl) (by exact wn0 rfl) (fun wS => (x_fieldAddr fo30_0 (by rfl))) ?_
                      refine PR_take (by rfl) (by rfl) (by rfl) (by exact wn0 rfl) (fun wS (H : Sep ok w wS [.blk b17 25 [.int .i64 a0.W, .int .i64 a0.H, .slice A1 a0.Color.length cp2, .slice A5 a0.Depth.length cp6, .slice A9 a0.Item.length cp10, .slice A13 a0.Tri.length cp14], .blk b19 30 [.int .i64 a1.X0, .int .i64 a1.Y0, .int .i64 a1.X1, .int .i64 a1.Y1], .blk b33 28 [.slice A30 v28.1.Levels.length cp31]] [RE.rd k_Ar4_Int A1 cp2 a0.Color, RE.rd kInt A5 cp6 a0.Depth, RE.rd kInt A9 cp10 a0.Item, RE.rd kInt A13 cp14 a0.Tri, RE.rd k_Level A30 cp31 v28.1.Levels]) => (x_load (j := 0) (v := .int .i64 a1.X0) sc3 (by rfl) (H.cells (i := 1) (by rfl)) (by rfl))) ?_
                      refine PR_free (by rfl) (by rfl) (by rfl) (by exact wn0 rfl) (fun wS => (x_geq (by rfl) (by rfl))) ?_
                      refine PR_free (by rfl) (by rfl) (by rfl) (by exact wn0 rfl) (fun wS => (x_move (v := .bool (decide (a1.X0 ≤ (Int.tmod y18_4 a0.W)))) (by rfl))) ?_
                      obtain ⟨b154, hmS, hm⟩ := bind_some hm
                      refine PR_cut 8 (fun r' w' => Agr [(186, .bool b154), (2, .pointer (some ⟨b17, 0, none⟩)), (3, .pointer (some ⟨b19, 0, none⟩)), (5, .bool v22), (15, .int .i64 v145.1), (17, .int .i64 y17_4), (18, .int .i64 y18_4)] r' ∧ Sep ok w w' [.blk b17 25 [.int .i64 a0.W, .int .i64 a0.H, .slice A1 a0.Color.length cp2, .slice A5 a0.Depth.length cp6, .slice A9 a0.Item.length cp10, .slice A13 a0.Tri.length cp14], .blk b19 30 [.int .i64 a1.X0, .int .i64 a1.Y0, .int .i64 a1.X1, .int .i64 a1.Y1], .blk b33 28 [.slice A30 v28.1.Levels.length cp31]] [RE.rd k_Ar4_Int A1 cp2 a0.Color, RE.rd kInt A5 cp6 a0.Depth, RE.rd kInt A9 cp10 a0.Item, RE.rd kInt A13 cp14 a0.Tri, RE.rd k_Level A30 cp31 v28.1.Levels]) ?_ ?_
                      · cases hbS : (decide (a1.X0 ≤ (Int.tmod y18_4 a0.W)))
                        · have hm := cond_f hbS hmS
                          refine PR_offF (by rfl) (by rfl) (by rfl) (by exact wn2 rfl rfl rfl rfl) ?_
                          refine PR_offF (by rfl) (by rfl) (by rfl) (by exact wn2 rfl rfl rfl rfl) ?_
                          refine PR_off (by rfl) (by rfl) (by rfl) (by exact wn2 rfl rfl rfl rfl) ?_
                          refine PR_offF (by rfl) (by rfl) (by rfl) (by exact wn2 rfl rfl rfl rfl) ?_
                          refine PR_offF (by rfl) (by rfl) (by rfl) (by exact wn2 rfl rfl rfl rfl) ?_
                          refine PR_off (by rfl) (by rfl) (by rfl) (by exact wn2 rfl rfl rfl rfl) ?_
                          refine PR_offF (by rfl) (by rfl) (by rfl) (by exact wn2 rfl rfl rfl rfl) ?_
                          refine PR_free (by rfl) (by rfl) (by rfl) (by exact wn0 rfl) (fun wS => (x_pick_f (v := .bool false) (by rfl) (by rfl))) ?_
                          refine PR_nil ?_
                          exact ⟨⟨congrArg Value.bool (Option.some.inj hm), rfl, rfl, rfl, rfl, rfl, rfl, trivial⟩, H⟩
                        · have hm := cond_t hbS hmS
                          refine PR_free (by rfl) (by rfl) (by rfl) (by exact wn1 rfl rfl rfl rfl) (fun wS => (x_move (v := .int .i64 y18_4) (by rfl))) ?_
                          refine PR_free (by rfl) (by rfl) (by rfl) (by exact wn1 rfl rfl rfl rfl) (fun wS => (x_fieldAddr fo25_0 (by rfl))) ?_
                          refine PR_take (by rfl) (by rfl) (by rfl) (by exact wn1 rfl rfl rfl rfl) (fun wS (H : Sep ok w wS [.blk b17 25 [.int .i64 a0.W, .int .i64 a0.H, .slice A1 a0.Color.length cp2, .slice A5 a0.Depth.length cp6, .slice A9 a0.Item.length cp10, .slice A13 a0.Tri.length cp14], .blk b19 30 [.int .i64 a1.X0, .int .i64 a1.Y0, .int .i64 a1.X1, .int .i64 a1.Y1], .blk b33 28 [.slice A30 v28.1.Levels.length cp31]] [RE.rd k_Ar4_Int A1 cp2 a0.Color, RE.rd kInt A5 cp6 a0.Depth, RE.rd kInt A9 cp10 a0.Item, RE.rd kInt A13 cp14 a0.Tri, RE.rd k_Level A30 cp31 v28.1.Levels]) => (x_load (j := 0) (v := .int .i64 a0.W) sc3 (by rfl) (H.cells (i := 0) (by rfl)) (by rfl))) ?_
                          obtain ⟨nx155, hm⟩ := nz_some hm
                          refine PR_free (by rfl) (by rfl) (by rfl) (by exact wn1 rfl rfl rfl rfl) (fun wS => (x_rem (by rfl) (by rfl) nx155)) ?_
                          refine PR_free (by rfl) (by rfl) (by rfl) (by exact wn1 rfl rfl rfl rfl) (fun wS => (x_fieldAddr fo30_2 (by rfl))) ?_
                          refine PR_take (by rfl) (by rfl) (by rfl) (by exact wn1 rfl rfl rfl rfl) (fun wS (H : Sep ok w wS [.blk b17 25 [.int .i64 a0.W, .int .i64 a0.H, .slice A1 a0.Color.length cp2, .slice A5 a0.Depth.length cp6, .slice A9 a0.Item.length cp10, .slice A13 a0.Tri.length cp14], .blk b19 30 [.int .i64 a1.X0, .int .i64 a1.Y0, .int .i64 a1.X1, .int .i64 a1.Y1], .blk b33 28 [.slice A30 v28.1.Levels.length cp31]] [RE.rd k_Ar4_Int A1 cp2 a0.Color, RE.rd kInt A5 cp6 a0.Depth, RE.rd kInt A9 cp10 a0.Item, RE.rd kInt A13 cp14 a0.Tri, RE.rd k_Level A30 cp31 v28.1.Levels]) => (x_load (j := 2) (v := .int .i64 a1.X1) sc3 (by rfl) (H.cells (i := 1) (by rfl)) (by rfl))) ?_
                          refine PR_free (by rfl) (by rfl) (by rfl) (by exact wn1 rfl rfl rfl rfl) (fun wS => (x_leq (by rfl) (by rfl))) ?_
                          refine PR_free (by rfl) (by rfl) (by rfl) (by exact wn0 rfl) (fun wS => (x_pick_t (v := .bool (decide ((Int.tmod y18_4 a0.W) ≤ a1.X1))) (by rfl) (by rfl))) ?_
                          refine PR_nil ?_
                          exact ⟨⟨congrArg Value.bool (Option.some.inj hm), rfl, rfl, rfl, rfl, rfl, rfl, trivial⟩, H⟩
                      · rintro r' w' ⟨hA, H⟩
                        obtain ⟨r156, rfl⟩ := regen _ hA; clear hA
                        obtain ⟨w157, rfl⟩ : ∃ W : World, W = w' := ⟨_, rfl⟩
                        show PR _ _ _ _ _ _ _ _
                        refine PR_free (by rfl) (by rfl) (by rfl) (by exact wn0 rfl) (fun wS => (x_move (v := .bool b154) (by rfl))) ?_
                        obtain ⟨b158, hmS, hm⟩ := bind_some hm
                        refine PR_cut 8 (fun r' w' => Agr [(195, .bool b158), (2, .pointer (some ⟨b17, 0, none⟩)), (3, .pointer (some ⟨b19, 0, none⟩)), (5, .bool v22), (15, .int .i64 v145.1), (17, .int .i64 y17_4), (18, .int .i64 y18_4)] r' ∧ Sep ok w w' [.blk b17 25 [.int .i64 a0.W, .int .i64 a0.H, .slice A1 a0.Color.length cp2, .slice A5 a0.Depth.length cp6, .slice A9 a0.Item.length cp10, .slice A13 a0.Tri.length cp14], .blk b19 30 [.int .i64 a1.X0, .int .i64 a1.Y0, .int .i64 a1.X1, .int .i64 a1.Y1], .blk b33 28 [.slice A30 v28.1.Levels.length cp31]] [RE.rd k_Ar4_Int A1 cp2 a0.Color, RE.rd kInt A5 cp6 a0.Depth, RE.rd kInt A9 cp10 a0.Item, RE.rd kInt A13 cp14 a0.Tri, RE.rd k_Level A30 cp31 v28.1.Levels]) ?_ ?_
                        · cases hbS : b154
                          · have hm := cond_f hbS hmS
                            refine PR_offF (by rfl) (by rfl) (by rfl) (by exact wn2 rfl rfl rfl rfl) ?_
                            refine PR_offF (by rfl) (by rfl) (by rfl) (by exact wn2 rfl rfl rfl rfl) ?_
                            refine PR_off (by rfl) (by rfl) (by rfl) (by exact wn2 rfl rfl rfl rfl) ?_
                            refine PR_offF (by rfl) (by rfl) (by rfl) (by exact wn2 rfl rfl rfl rfl) ?_
                            refine PR_offF (by rfl) (by rfl) (by rfl) (by exact wn2 rfl rfl rfl rfl) ?_
                            refine PR_off (by rfl) (by rfl) (by rfl) (by exact wn2 rfl rfl rfl rfl) ?_
                            refine PR_offF (by rfl) (by rfl) (by rfl) (by exact wn2 rfl rfl rfl rfl) ?_
                            refine PR_free (by rfl) (by rfl) (by rfl) (by exact wn0 rfl) (fun wS => (x_pick_f (v := .bool false) (by rfl) (by rfl))) ?_
                            refine PR_nil ?_
                            exact ⟨⟨congrArg Value.bool (Option.some.inj hm), rfl, rfl, rfl, rfl, rfl, rfl, trivial⟩, H⟩
                          · have hm := cond_t hbS hmS
                            refine PR_free (by rfl) (by rfl) (by rfl) (by exact wn1 rfl rfl rfl rfl) (fun wS => (x_move (v := .int .i64 y18_4) (by rfl))) ?_
                            refine PR_free (by rfl) (by rfl) (by rfl) (by exact wn1 rfl rfl rfl rfl) (fun wS => (x_fieldAddr fo25_0 (by rfl))) ?_
                            refine PR_take (by rfl) (by rfl) (by rfl) (by exact wn1 rfl rfl rfl rfl) (fun wS (H : Sep ok w wS [.blk b17 25 [.int .i64 a0.W, .int .i64 a0.H, .slice A1 a0.Color.length cp2, .slice A5 a0.Depth.length cp6, .slice A9 a0.Item.length cp10, .slice A13 a0.Tri.length cp14], .blk b19 30 [.int .i64 a1.X0, .int .i64 a1.Y0, .int .i64 a1.X1, .int .i64 a1.Y1], .blk b33 28 [.slice A30 v28.1.Levels.length cp31]] [RE.rd k_Ar4_Int A1 cp2 a0.Color, RE.rd kInt A5 cp6 a0.Depth, RE.rd kInt A9 cp10 a0.Item, RE.rd kInt A13 cp14 a0.Tri, RE.rd k_Level A30 cp31 v28.1.Levels]) => (x_load (j := 0) (v := .int .i64 a0.W) sc3 (by rfl) (H.cells (i := 0) (by rfl)) (by rfl))) ?_
                            obtain ⟨nx159, hm⟩ := nz_some hm
                            obtain ⟨x159, ex159, qx159, ux159, hm⟩ := ck_some hm
                            refine PR_free (by rfl) (by rfl) (by rfl) (by exact wn1 rfl rfl rfl rfl) (fun wS => (x_quo (by rfl) (by rfl) nx159 ux159)) ?_
                            refine PR_free (by rfl) (by rfl) (by rfl) (by exact wn1 rfl rfl rfl rfl) (fun wS => (x_fieldAddr fo30_1 (by rfl))) ?_
                            refine PR_take (by rfl) (by rfl) (by rfl) (by exact wn1 rfl rfl rfl rfl) (fun wS (H : Sep ok w wS [.blk b17 25 [.int .i64 a0.W, .int .i64 a0.H, .slice A1 a0.Color.length cp2, .slice A5 a0.Depth.length cp6, .slice A9 a0.Item.length cp10, .slice A13 a0.Tri.length cp14], .blk b19 30 [.int .i64 a1.X0, .int .i64 a1.Y0, .int .i64 a1.X1, .int .i64 a1.Y1], .blk b33 28 [.slice A30 v28.1.Levels.length cp31]] [RE.rd k_Ar4_Int A1 cp2 a0.Color, RE.rd kInt A5 cp6 a0.Depth, RE.rd kInt A9 cp10 a0.Item, RE.rd kInt A13 cp14 a0.Tri, RE.rd k_Level A30 cp31 v28.1.Levels]) => (x_load (j := 1) (v := .int .i64 a1.Y0) sc3 (by rfl) (H.cells (i := 1) (by rfl)) (by rfl))) ?_
                            refine PR_free (by rfl) (by rfl) (by rfl) (by exact wn1 rfl rfl rfl rfl) (fun wS => (x_geq (by rfl) (by rfl))) ?_
                            refine PR_free (by rfl) (by rfl) (by rfl) (by exact wn0 rfl) (fun wS => (x_pick_t (v := .bool (decide (a1.Y0 ≤ x159))) (by rfl) (by rfl))) ?_
                            refine PR_nil ?_
                            exact ⟨⟨congrArg Value.bool (Option.some.inj hm), rfl, rfl, rfl, rfl, rfl, rfl, trivial⟩, H⟩
                        · rintro r' w' ⟨hA, H⟩
                          obtain ⟨r160, rfl⟩ := regen _ hA; clear hA
                          obtain ⟨w161, rfl⟩ : ∃ W : World, W = w' := ⟨_, rfl⟩
                          show PR _ _ _ _ _ _ _ _
                          refine PR_free (by rfl) (by rfl) (by rfl) (by exact wn0 rfl) (fun wS => (x_move (v := .bool b158) (by rfl))) ?_
                          obtain ⟨b162, hmS, hm⟩ := bind_some hm
                          refine PR_cut 8 (fun r' w' => Agr [(204, .bool b162), (2, .pointer (some ⟨b17, 0, none⟩)), (3, .pointer (some ⟨b19, 0, none⟩)), (5, .bool v22), (15, .int .i64 v145.1), (17, .int .i64 y17_4), (18, .int .i64 y18_4)] r' ∧ Sep ok w w' [.blk b17 25 [.int .i64 a0.W, .int .i64 a0.H, .slice A1 a0.Color.length cp2, .slice A5 a0.Depth.length cp6, .slice A9 a0.Item.length cp10, .slice A13 a0.Tri.length cp14], .blk b19 30 [.int .i64 a1.X0, .int .i64 a1.Y0, .int .i64 a1.X1, .int .i64 a1.Y1], .blk b33 28 [.slice A30 v28.1.Levels.length cp31]] [RE.rd k_Ar4_Int A1 cp2 a0.Color, RE.rd kInt A5 cp6 a0.Depth, RE.rd kInt A9 cp10 a0.Item, RE.rd kInt A13 cp14 a0.Tri, RE.rd k_Level A30 cp31 v28.1.Levels]) ?_ ?_
                          · cases hbS : b158
                            · have hm := cond_f hbS hmS
                              refine PR_offF (by rfl) (by rfl) (by rfl) (by exact wn2 rfl rfl rfl rfl) ?_
                              refine PR_offF (by rfl) (by rfl) (by rfl) (by exact wn2 rfl rfl rfl rfl) ?_
                              refine PR_off (by rfl) (by rfl) (by rfl) (by exact wn2 rfl rfl rfl rfl) ?_
                              refine PR_offF (by rfl) (by rfl) (by rfl) (by exact wn2 rfl rfl rfl rfl) ?_
                              refine PR_offF (by rfl) (by rfl) (by rfl) (by exact wn2 rfl rfl rfl rfl) ?_
                              refine PR_off (by rfl) (by rfl) (by rfl) (by exact wn2 rfl rfl rfl rfl) ?_
                              refine PR_offF (by rfl) (by rfl) (by rfl) (by exact wn2 rfl rfl rfl rfl) ?_
                              refine PR_free (by rfl) (by rfl) (by rfl) (by exact wn0 rfl) (fun wS => (x_pick_f (v := .bool false) (by rfl) (by rfl))) ?_
                              refine PR_nil ?_
                              exact ⟨⟨congrArg Value.bool (Option.some.inj hm), rfl, rfl, rfl, rfl, rfl, rfl, trivial⟩, H⟩
                            · have hm := cond_t hbS hmS
                              refine PR_free (by rfl) (by rfl) (by rfl) (by exact wn1 rfl rfl rfl rfl) (fun wS => (x_move (v := .int .i64 y18_4) (by rfl))) ?_
                              refine PR_free (by rfl) (by rfl) (by rfl) (by exact wn1 rfl rfl rfl rfl) (fun wS => (x_fieldAddr fo25_0 (by rfl))) ?_
                              refine PR_take (by rfl) (by rfl) (by rfl) (by exact wn1 rfl rfl rfl rfl) (fun wS (H : Sep ok w wS [.blk b17 25 [.int .i64 a0.W, .int .i64 a0.H, .slice A1 a0.Color.length cp2, .slice A5 a0.Depth.length cp6, .slice A9 a0.Item.length cp10, .slice A13 a0.Tri.length cp14], .blk b19 30 [.int .i64 a1.X0, .int .i64 a1.Y0, .int .i64 a1.X1, .int .i64 a1.Y1], .blk b33 28 [.slice A30 v28.1.Levels.length cp31]] [RE.rd k_Ar4_Int A1 cp2 a0.Color, RE.rd kInt A5 cp6 a0.Depth, RE.rd kInt A9 cp10 a0.Item, RE.rd kInt A13 cp14 a0.Tri, RE.rd k_Level A30 cp31 v28.1.Levels]) => (x_load (j := 0) (v := .int .i64 a0.W) sc3 (by rfl) (H.cells (i := 0) (by rfl)) (by rfl))) ?_
                              obtain ⟨nx163, hm⟩ := nz_some hm
                              obtain ⟨x163, ex163, qx163, ux163, hm⟩ := ck_some hm
                              refine PR_free (by rfl) (by rfl) (by rfl) (by exact wn1 rfl rfl rfl rfl) (fun wS => (x_quo (by rfl) (by rfl) nx163 ux163)) ?_
                              refine PR_free (by rfl) (by rfl) (by rfl) (by exact wn1 rfl rfl rfl rfl) (fun wS => (x_fieldAddr fo30_3 (by rfl))) ?_
                              refine PR_take (by rfl) (by rfl) (by rfl) (by exact wn1 rfl rfl rfl rfl) (fun wS (H : Sep ok w wS [.blk b17 25 [.int .i64 a0.W, .int .i64 a0.H, .slice A1 a0.Color.length cp2, .slice A5 a0.Depth.length cp6, .slice A9 a0.Item.length cp10, .slice A13 a0.Tri.length cp14], .blk b19 30 [.int .i64 a1.X0, .int .i64 a1.Y0, .int .i64 a1.X1, .int .i64 a1.Y1], .blk b33 28 [.slice A30 v28.1.Levels.length cp31]] [RE.rd k_Ar4_Int A1 cp2 a0.Color, RE.rd kInt A5 cp6 a0.Depth, RE.rd kInt A9 cp10 a0.Item, RE.rd kInt A13 cp14 a0.Tri, RE.rd k_Level A30 cp31 v28.1.Levels]) => (x_load (j := 3) (v := .int .i64 a1.Y1) sc3 (by rfl) (H.cells (i := 1) (by rfl)) (by rfl))) ?_
                              refine PR_free (by rfl) (by rfl) (by rfl) (by exact wn1 rfl rfl rfl rfl) (fun wS => (x_leq (by rfl) (by rfl))) ?_
                              refine PR_free (by rfl) (by rfl) (by rfl) (by exact wn0 rfl) (fun wS => (x_pick_t (v := .bool (decide (x163 ≤ a1.Y1))) (by rfl) (by rfl))) ?_
                              refine PR_nil ?_
                              exact ⟨⟨congrArg Value.bool (Option.some.inj hm), rfl, rfl, rfl, rfl, rfl, rfl, trivial⟩, H⟩
                          · rintro r' w' ⟨hA, H⟩
                            obtain ⟨r164, rfl⟩ := regen _ hA; clear hA
                            obtain ⟨w165, rfl⟩ : ∃ W : World, W = w' := ⟨_, rfl⟩
                            show PR _ _ _ _ _ _ _ _
                            refine PR_nil ?_
                            refine W_cond (by rfl) (fun hb => ?_) (fun hb => ?_)
                            · have hm := cond_t hb hm
                              refine W_region ?_
                              refine RL_pure (by exact wn0 rfl) (by rfl) (by rfl) (x_move (v := .int .i64 y17_4) (by rfl)) ?_
                              refine RL_pure (by exact wn0 rfl) (by rfl) (by rfl) (x_fieldAddr fo25_3 (by rfl)) ?_
                              refine RL_pure (by exact wn0 rfl) (by rfl) (by rfl) (x_load (j := 3) (v := .slice A5 a0.Depth.length cp6) sc23 (by rfl) (H.cells (i := 0) (by rfl)) (by rfl)) ?_
                              refine RL_pure (by exact wn0 rfl) (by rfl) (by rfl) (x_move (v := .int .i64 y18_4) (by rfl)) ?_
                              obtain ⟨el166, h167, h168, he169, hm⟩ := idx_some hm
                              obtain ⟨g171, o172, hA170⟩ := (H.rd (i := 1) (by rfl)).addr he169
                              refine RL_pure (by exact wn0 rfl) (by rfl) (by rfl) (x_indexAddr sl23 sz3 (by rfl) (by rfl) hA170 h167 h168) ?_
                              refine RL_pure (by exact wn0 rfl) (by rfl) (by rfl) (x_load (j := 0) (v := .int .i64 el166) sc3 (by rfl) (Rd.flatAt (n := 1) (H.rd (i := 1) (by rfl)) hA170 he169) (by rfl)) ?_
                              refine RL_pure (by exact wn0 rfl) (by rfl) (by rfl) (x_min2 (by rfl) (by rfl)) ?_
                              refine RL_pure (by exact wn0 rfl) (by rfl) (by rfl) (x_assign (v := .int .i64 (mn y17_4 el166)) (by rfl)) ?_
                              refine RL_nil ?_
                              refine W_region ?_
                              refine RL_pure (by exact wn0 rfl) (by rfl) (by rfl) (x_move (v := .int .i64 y18_4) (by rfl)) ?_
                              obtain ⟨x173, ex173, qx173, ux173, hm⟩ := ck_some hm
                              refine RL_pure (by exact wn0 rfl) (by rfl) (by rfl) (x_add (by rfl) (by rfl) ux173) ?_
                              refine RL_pure (by exact wn0 rfl) (by rfl) (by rfl) (x_assign (v := .int .i64 x173) (by rfl)) ?_
                              refine RL_nil ?_
                              subst hrec4
                              exact ⟨k4, Nat.lt_succ_self k4, (mn y17_4 el166), x173, hm, ⟨rfl, rfl, rfl, rfl, rfl, rfl, trivial⟩, H⟩
                            · have hm := cond_f hb hm
                              refine W_skip ?_
                              refine W_region ?_
                              refine RL_pure (by exact wn0 rfl) (by rfl) (by rfl) (x_move (v := .int .i64 y18_4) (by rfl)) ?_
                              obtain ⟨x174, ex174, qx174, ux174, hm⟩ := ck_some hm
                              refine RL_pure (by exact wn0 rfl) (by rfl) (by rfl) (x_add (by rfl) (by rfl) ux174) ?_
                              refine RL_pure (by exact wn0 rfl) (by rfl) (by rfl) (x_assign (v := .int .i64 x174) (by rfl)) ?_
                              refine RL_nil ?_
                              subst hrec4
                              exact ⟨k4, Nat.lt_succ_self k4, y17_4, x174, hm, ⟨rfl, rfl, rfl, rfl, rfl, rfl, trivial⟩, H⟩
                    · have hm := cond_f hb hm
                      refine W_exit ?_
                      refine W_seq ?_
                      refine W_region ?_
                      refine RL_pure (by exact wn0 rfl) (by rfl) (by rfl) (x_move (v := .bool v22) (by rfl)) ?_
                      refine RL_pure (by exact wn0 rfl) (by rfl) (by rfl) (x_move (v := .bool v22) (by rfl)) ?_
                      obtain ⟨b175, hmS, hm⟩ := bind_some hm
                      refine RL_cut 4 (fun r' w' => Agr [(217, .bool b175)] r' ∧ Sep ok w w' [.blk b17 25 [.int .i64 a0.W, .int .i64 a0.H, .slice A1 a0.Color.length cp2, .slice A5 a0.Depth.length cp6, .slice A9 a0.Item.length cp10, .slice A13 a0.Tri.length cp14], .blk b19 30 [.int .i64 a1.X0, .int .i64 a1.Y0, .int .i64 a1.X1, .int .i64 a1.Y1], .blk b33 28 [.slice A30 v28.1.Levels.length cp31]] [RE.rd k_Ar4_Int A1 cp2 a0.Color, RE.rd kInt A5 cp6 a0.Depth, RE.rd kInt A9 cp10 a0.Item, RE.rd kInt A13 cp14 a0.Tri, RE.rd k_Level A30 cp31 v28.1.Levels]) ?_ ?_
                      · cases hbS : v22
                        · have hm := cond_f hbS hmS
                          refine RL_cons (OpR_off (by exact wn2 rfl rfl rfl rfl) (by rfl) (by rfl) ?_)
                          refine RL_cons (OpR_off (by exact wn2 rfl rfl rfl rfl) (by rfl) (by rfl) ?_)
                          refine RL_cons (OpR_off (by exact wn2 rfl rfl rfl rfl) (by rfl) (by rfl) ?_)
                          refine RL_pure (by exact wn0 rfl) (by rfl) (by rfl) (x_pick_f (v := .bool false) (by rfl) (by rfl)) ?_
                          refine RL_nil ?_
                          exact ⟨⟨congrArg Value.bool (Option.some.inj hm), trivial⟩, H⟩
                        · have hm := cond_t hbS hmS
                          refine RL_pure (by exact wn1 rfl rfl rfl rfl) (by rfl) (by rfl) (x_move (v := .int .i64 v145.1) (by rfl)) ?_
                          refine RL_pure (by exact wn1 rfl rfl rfl rfl) (by rfl) (by rfl) (x_move (v := .int .i64 y17_4) (by rfl)) ?_
                          refine RL_pure (by exact wn1 rfl rfl rfl rfl) (by rfl) (by rfl) (x_eql (by rfl) (by rfl)) ?_
                          refine RL_pure (by exact wn0 rfl) (by rfl) (by rfl) (x_pick_t (v := .bool (v145.1 == y17_4)) (by rfl) (by rfl)) ?_
                          refine RL_nil ?_
                          exact ⟨⟨congrArg Value.bool (Option.some.inj hm), trivial⟩, H⟩
                      · rintro r' w' ⟨hA, H⟩
                        obtain ⟨r176, rfl⟩ := regen _ hA; clear hA
                        obtain ⟨w177, rfl⟩ : ∃ W : World, W = w' := ⟨_, rfl⟩
                        show RL _ _ _ _ _ _ _
                        refine RL_pure (by exact wn0 rfl) (by rfl) (by rfl) (x_assign (v := .bool b175) (by rfl)) ?_
                        refine RL_nil ?_
                        refine W_ret ?_
                        obtain rfl := Option.some.inj hm
                        exact ⟨[.bool b175], (.tmp (by rfl) rfl), rfl, H.none_⟩
end Go.Proofs.YtobkigllalbkiaaV.M
