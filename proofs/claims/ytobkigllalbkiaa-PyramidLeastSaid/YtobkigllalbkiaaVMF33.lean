/- A plain Lean function that answers as the Go function does (none: not told), and the proof that a call answers so. Written by program. -/
import Derived.Test.YtobkigllalbkiaaVMTy
import Derived.Test.YtobkigllalbkiaaVMF75
set_option linter.unusedVariables false
namespace Go.Proofs.YtobkigllalbkiaaV.M
open Go.RowKit Go.Proofs.YtobkigllalbkiaaV
def m33_l1b (K : Nat) (a0 : S_Frame) (rec1 : Int → Option (Int)) (y55_1 : Int) : Option (Int) :=
  (bif (decide (y55_1 < (a0.Depth.length : Int))) then (idx a0.Depth y55_1 fun el34 => ((bif (el34 == (-2048)) then (idx a0.Item y55_1 fun el42 => some (el42 == (-1))) else some false).bind fun b41 => ((bif b41 then (idx a0.Tri y55_1 fun el52 => some (el52 == (-1))) else some false).bind fun b51 => ((bif (!b51) then (idx a0.Item y55_1 fun el63 => (idx a0.Tri y55_1 fun el70 => ((m75 K el34 el63 el70).bind fun v78 => some (!v78)))) else some false).bind fun b62 => (bif b62 then some 8 else (ck (y55_1 + 1) fun x82 => (rec1 x82))))))) else some 0)
def m33_l1 (K : Nat) (a0 : S_Frame) : Nat → Int → Option (Int)
  | 0 => fun _ => none
  | k + 1 => m33_l1b K a0 (m33_l1 K a0 k)
/-- diorama/frame.Check -/
def m33 (K : Nat) (a0 : S_Frame) : Option (Int) :=
  ((bif (decide ((mn a0.W a0.H) < 1)) then some true else some (decide (64 < (mx a0.W a0.H)))).bind fun b19 => (bif b19 then some 8 else (ck (a0.W * a0.H) fun x22 => ((bif ((a0.Color.length : Int) != x22) then some true else some ((a0.Depth.length : Int) != x22)).bind fun b23 => ((bif b23 then some true else some ((a0.Item.length : Int) != x22)).bind fun b26 => ((bif b26 then some true else some ((a0.Tri.length : Int) != x22)).bind fun b29 => (bif b29 then some 8 else m33_l1 K a0 K 0)))))))
set_option maxRecDepth 100000 in
set_option maxHeartbeats 4000000 in
theorem c33 (ok : Nat → Prop) (K : Nat) (w : World) (a0 : S_Frame) (A1 : Option Addr) (cp2 : Nat) (A5 : Option Addr) (cp6 : Nat) (A9 : Option Addr) (cp10 : Nat) (A13 : Option Addr) (cp14 : Nat) (hR3 : Rd k_Ar4_Int w ok A1 cp2 a0.Color) (hR7 : Rd kInt w ok A5 cp6 a0.Depth) (hR11 : Rd kInt w ok A9 cp10 a0.Item) (hR15 : Rd kInt w ok A13 cp14 a0.Tri) (res : Int) (hm : m33 K a0 = some res) :
    Calls Try.prog 33 #[.agg #[.int .i64 a0.W, .int .i64 a0.H, .slice A1 a0.Color.length cp2, .slice A5 a0.Depth.length cp6, .slice A9 a0.Item.length cp10, .slice A13 a0.Tri.length cp14]] w (fun e w' => e = .returned (tup [.int .i64 res]) ∧ Sep ok w w' [] []) := by
  refine calls_W (args := [.agg #[.int .i64 a0.W, .int .i64 a0.H, .slice A1 a0.Color.length cp2, .slice A5 a0.Depth.length cp6, .slice A9 a0.Item.length cp10, .slice A13 a0.Tri.length cp14]]) Try.func33 rfl Try.ntmps33 Try.results33 rfl fun r hr => ?_
  obtain ⟨r1, rfl⟩ := regen (r := r) [(0, .agg #[.int .i64 a0.W, .int .i64 a0.H, .slice A1 a0.Color.length cp2, .slice A5 a0.Depth.length cp6, .slice A9 a0.Item.length cp10, .slice A13 a0.Tri.length cp14])] ⟨hr 0 _ rfl, trivial⟩
  have H : Sep ok w w [] [RE.rd k_Ar4_Int A1 cp2 a0.Color, RE.rd kInt A5 cp6 a0.Depth, RE.rd kInt A9 cp10 a0.Item, RE.rd kInt A13 cp14 a0.Tri] := Sep.arg (Sep.arg (Sep.arg (Sep.arg (Sep.start ok w) (re := RE.rd k_Ar4_Int A1 cp2 a0.Color) rfl rfl hR3) (re := RE.rd kInt A5 cp6 a0.Depth) rfl rfl hR7) (re := RE.rd kInt A9 cp10 a0.Item) rfl rfl hR11) (re := RE.rd kInt A13 cp14 a0.Tri) rfl rfl hR15
  unfold m33 at hm
  refine W_seq ?_
  refine W_region ?_
  refine RL_cons (O_box (by exact wn0 rfl) (by rfl) (by rfl) (by rfl) H (fun w18 b17 (H : Sep ok w w18 [.blk b17 25 [.int .i64 a0.W, .int .i64 a0.H, .slice A1 a0.Color.length cp2, .slice A5 a0.Depth.length cp6, .slice A9 a0.Item.length cp10, .slice A13 a0.Tri.length cp14]] [RE.rd k_Ar4_Int A1 cp2 a0.Color, RE.rd kInt A5 cp6 a0.Depth, RE.rd kInt A9 cp10 a0.Item, RE.rd kInt A13 cp14 a0.Tri]) => ?_))
  refine RL_pure (by exact wn0 rfl) (by rfl) (by rfl) (x_assign (v := .int .i64 0) (by rfl)) ?_
  refine RL_nil ?_
  refine W_seq ?_
  refine W_seq ?_
  refine W_region ?_
  refine RL_pure (by exact wn0 rfl) (by rfl) (by rfl) (x_fieldAddr fo25_0 (by rfl)) ?_
  refine RL_pure (by exact wn0 rfl) (by rfl) (by rfl) (x_load (j := 0) (v := .int .i64 a0.W) sc3 (by rfl) (H.cells (i := 0) (by rfl)) (by rfl)) ?_
  refine RL_pure (by exact wn0 rfl) (by rfl) (by rfl) (x_fieldAddr fo25_1 (by rfl)) ?_
  refine RL_pure (by exact wn0 rfl) (by rfl) (by rfl) (x_load (j := 1) (v := .int .i64 a0.H) sc3 (by rfl) (H.cells (i := 0) (by rfl)) (by rfl)) ?_
  refine RL_pure (by exact wn0 rfl) (by rfl) (by rfl) (x_min2 (by rfl) (by rfl)) ?_
  refine RL_pure (by exact wn0 rfl) (by rfl) (by rfl) (x_lss (by rfl) (by rfl)) ?_
  refine RL_pure (by exact wn0 rfl) (by rfl) (by rfl) (x_move (v := .bool (decide ((mn a0.W a0.H) < 1))) (by rfl)) ?_
  obtain ⟨b19, hmS, hm⟩ := bind_some hm
  refine RL_cut 7 (fun r' w' => Agr [(20, .bool b19), (1, .pointer (some ⟨b17, 0, none⟩))] r' ∧ Sep ok w w' [.blk b17 25 [.int .i64 a0.W, .int .i64 a0.H, .slice A1 a0.Color.length cp2, .slice A5 a0.Depth.length cp6, .slice A9 a0.Item.length cp10, .slice A13 a0.Tri.length cp14]] [RE.rd k_Ar4_Int A1 cp2 a0.Color, RE.rd kInt A5 cp6 a0.Depth, RE.rd kInt A9 cp10 a0.Item, RE.rd kInt A13 cp14 a0.Tri]) ?_ ?_
  · cases hbS : (decide ((mn a0.W a0.H) < 1))
    · have hm := cond_f hbS hmS
      refine RL_pure (by exact wn1 rfl rfl rfl rfl) (by rfl) (by rfl) (x_fieldAddr fo25_0 (by rfl)) ?_
      refine RL_pure (by exact wn1 rfl rfl rfl rfl) (by rfl) (by rfl) (x_load (j := 0) (v := .int .i64 a0.W) sc3 (by rfl) (H.cells (i := 0) (by rfl)) (by rfl)) ?_
      refine RL_pure (by exact wn1 rfl rfl rfl rfl) (by rfl) (by rfl) (x_fieldAddr fo25_1 (by rfl)) ?_
      refine RL_pure (by exact wn1 rfl rfl rfl rfl) (by rfl) (by rfl) (x_load (j := 1) (v := .int .i64 a0.H) sc3 (by rfl) (H.cells (i := 0) (by rfl)) (by rfl)) ?_
      refine RL_pure (by exact wn1 rfl rfl rfl rfl) (by rfl) (by rfl) (x_max2 (by rfl) (by rfl)) ?_
      refine RL_pure (by exact wn1 rfl rfl rfl rfl) (by rfl) (by rfl) (x_gtr (by rfl) (by rfl)) ?_
      refine RL_pure (by exact wn0 rfl) (by rfl) (by rfl) (x_pick_f (v := .bool (decide (64 < (mx a0.W a0.H)))) (by rfl) (by rfl)) ?_
      refine RL_nil ?_
      exact ⟨⟨congrArg Value.bool (Option.some.inj hm), rfl, trivial⟩, H⟩
    · have hm := cond_t hbS hmS
      refine RL_cons (OpR_off (by exact wn2 rfl rfl rfl rfl) (by rfl) (by rfl) ?_)
      refine RL_cons (OpR_off (by exact wn2 rfl rfl rfl rfl) (by rfl) (by rfl) ?_)
      refine RL_cons (OpR_off (by exact wn2 rfl rfl rfl rfl) (by rfl) (by rfl) ?_)
      refine RL_cons (OpR_off (by exact wn2 rfl rfl rfl rfl) (by rfl) (by rfl) ?_)
      refine RL_cons (OpR_off (by exact wn2 rfl rfl rfl rfl) (by rfl) (by rfl) ?_)
      refine RL_cons (OpR_off (by exact wn2 rfl rfl rfl rfl) (by rfl) (by rfl) ?_)
      refine RL_pure (by exact wn0 rfl) (by rfl) (by rfl) (x_pick_t (v := .bool true) (by rfl) (by rfl)) ?_
      refine RL_nil ?_
      exact ⟨⟨congrArg Value.bool (Option.some.inj hm), rfl, trivial⟩, H⟩
  · rintro r' w' ⟨hA, H⟩
    obtain ⟨r20, rfl⟩ := regen _ hA; clear hA
    obtain ⟨w21, rfl⟩ : ∃ W : World, W = w' := ⟨_, rfl⟩
    show RL _ _ _ _ _ _ _
    refine RL_nil ?_
    refine W_cond (by rfl) (fun hb => ?_) (fun hb => ?_)
    · have hm := cond_t hb hm
      refine W_seq ?_
      refine W_region ?_
      refine RL_pure (by exact wn0 rfl) (by rfl) (by rfl) (x_assign (v := .int .i64 8) (by rfl)) ?_
      refine RL_nil ?_
      refine W_ret ?_
      obtain rfl := Option.some.inj hm
      exact ⟨[.int .i64 8], (.tmp (by rfl) rfl), rfl, H.none_⟩
    · have hm := cond_f hb hm
      refine W_skip ?_
      refine W_seq ?_
      refine W_region ?_
      refine RL_pure (by exact wn0 rfl) (by rfl) (by rfl) (x_fieldAddr fo25_0 (by rfl)) ?_
      refine RL_pure (by exact wn0 rfl) (by rfl) (by rfl) (x_load (j := 0) (v := .int .i64 a0.W) sc3 (by rfl) (H.cells (i := 0) (by rfl)) (by rfl)) ?_
      refine RL_pure (by exact wn0 rfl) (by rfl) (by rfl) (x_fieldAddr fo25_1 (by rfl)) ?_
      refine RL_pure (by exact wn0 rfl) (by rfl) (by rfl) (x_load (j := 1) (v := .int .i64 a0.H) sc3 (by rfl) (H.cells (i := 0) (by rfl)) (by rfl)) ?_
      obtain ⟨x22, ex22, qx22, ux22, hm⟩ := ck_some hm
      refine RL_pure (by exact wn0 rfl) (by rfl) (by rfl) (x_mul (by rfl) (by rfl) ux22) ?_
      refine RL_pure (by exact wn0 rfl) (by rfl) (by rfl) (x_assign (v := .int .i64 x22) (by rfl)) ?_
      refine RL_nil ?_
      refine W_seq ?_
      refine W_seq ?_
      refine W_region ?_
      refine RL_pure (by exact wn0 rfl) (by rfl) (by rfl) (x_fieldAddr fo25_2 (by rfl)) ?_
      refine RL_pure (by exact wn0 rfl) (by rfl) (by rfl) (x_load (j := 2) (v := .slice A1 a0.Color.length cp2) sc22 (by rfl) (H.cells (i := 0) (by rfl)) (by rfl)) ?_
      refine RL_pure (by exact wn0 rfl) (by rfl) (by rfl) (x_len sl22 (by rfl)) ?_
      refine RL_pure (by exact wn0 rfl) (by rfl) (by rfl) (x_move (v := .int .i64 x22) (by rfl)) ?_
      refine RL_pure (by exact wn0 rfl) (by rfl) (by rfl) (x_neq (by rfl) (by rfl)) ?_
      refine RL_pure (by exact wn0 rfl) (by rfl) (by rfl) (x_move (v := .bool ((a0.Color.length : Int) != x22)) (by rfl)) ?_
      obtain ⟨b23, hmS, hm⟩ := bind_some hm
      refine RL_cut 6 (fun r' w' => Agr [(37, .bool b23), (1, .pointer (some ⟨b17, 0, none⟩)), (3, .int .i64 x22)] r' ∧ Sep ok w w' [.blk b17 25 [.int .i64 a0.W, .int .i64 a0.H, .slice A1 a0.Color.length cp2, .slice A5 a0.Depth.length cp6, .slice A9 a0.Item.length cp10, .slice A13 a0.Tri.length cp14]] [RE.rd k_Ar4_Int A1 cp2 a0.Color, RE.rd kInt A5 cp6 a0.Depth, RE.rd kInt A9 cp10 a0.Item, RE.rd kInt A13 cp14 a0.Tri]) ?_ ?_
      · cases hbS : ((a0.Color.length : Int) != x22)
        · have hm := cond_f hbS hmS
          refine RL_pure (by exact wn1 rfl rfl rfl rfl) (by rfl) (by rfl) (x_fieldAddr fo25_3 (by rfl)) ?_
          refine RL_pure (by exact wn1 rfl rfl rfl rfl) (by rfl) (by rfl) (x_load (j := 3) (v := .slice A5 a0.Depth.length cp6) sc23 (by rfl) (H.cells (i := 0) (by rfl)) (by rfl)) ?_
          refine RL_pure (by exact wn1 rfl rfl rfl rfl) (by rfl) (by rfl) (x_len sl23 (by rfl)) ?_
          refine RL_pure (by exact wn1 rfl rfl rfl rfl) (by rfl) (by rfl) (x_move (v := .int .i64 x22) (by rfl)) ?_
          refine RL_pure (by exact wn1 rfl rfl rfl rfl) (by rfl) (by rfl) (x_neq (by rfl) (by rfl)) ?_
          refine RL_pure (by exact wn0 rfl) (by rfl) (by rfl) (x_pick_f (v := .bool ((a0.Depth.length : Int) != x22)) (by rfl) (by rfl)) ?_
          refine RL_nil ?_
          exact ⟨⟨congrArg Value.bool (Option.some.inj hm), rfl, rfl, trivial⟩, H⟩
        · have hm := cond_t hbS hmS
          refine RL_cons (OpR_off (by exact wn2 rfl rfl rfl rfl) (by rfl) (by rfl) ?_)
          refine RL_cons (OpR_off (by exact wn2 rfl rfl rfl rfl) (by rfl) (by rfl) ?_)
          refine RL_cons (OpR_off (by exact wn2 rfl rfl rfl rfl) (by rfl) (by rfl) ?_)
          refine RL_cons (OpR_off (by exact wn2 rfl rfl rfl rfl) (by rfl) (by rfl) ?_)
          refine RL_cons (OpR_off (by exact wn2 rfl rfl rfl rfl) (by rfl) (by rfl) ?_)
          refine RL_pure (by exact wn0 rfl) (by rfl) (by rfl) (x_pick_t (v := .bool true) (by rfl) (by rfl)) ?_
          refine RL_nil ?_
          exact ⟨⟨congrArg Value.bool (Option.some.inj hm), rfl, rfl, trivial⟩, H⟩
      · rintro r' w' ⟨hA, H⟩
        obtain ⟨r24, rfl⟩ := regen _ hA; clear hA
        obtain ⟨w25, rfl⟩ : ∃ W : World, W = w' := ⟨_, rfl⟩
        show RL _ _ _ _ _ _ _
        refine RL_pure (by exact wn0 rfl) (by rfl) (by rfl) (x_move (v := .bool b23) (by rfl)) ?_
        obtain ⟨b26, hmS, hm⟩ := bind_some hm
        refine RL_cut 6 (fun r' w' => Agr [(44, .bool b26), (1, .pointer (some ⟨b17, 0, none⟩)), (3, .int .i64 x22)] r' ∧ Sep ok w w' [.blk b17 25 [.int .i64 a0.W, .int .i64 a0.H, .slice A1 a0.Color.length cp2, .slice A5 a0.Depth.length cp6, .slice A9 a0.Item.length cp10, .slice A13 a0.Tri.length cp14]] [RE.rd k_Ar4_Int A1 cp2 a0.Color, RE.rd kInt A5 cp6 a0.Depth, RE.rd kInt A9 cp10 a0.Item, RE.rd kInt A13 cp14 a0.Tri]) ?_ ?_
        · cases hbS : b23
          · have hm := cond_f hbS hmS
            refine RL_pure (by exact wn1 rfl rfl rfl rfl) (by rfl) (by rfl) (x_fieldAddr fo25_4 (by rfl)) ?_
            refine RL_pure (by exact wn1 rfl rfl rfl rfl) (by rfl) (by rfl) (x_load (j := 4) (v := .slice A9 a0.Item.length cp10) sc23 (by rfl) (H.cells (i := 0) (by rfl)) (by rfl)) ?_
            refine RL_pure (by exact wn1 rfl rfl rfl rfl) (by rfl) (by rfl) (x_len sl23 (by rfl)) ?_
            refine RL_pure (by exact wn1 rfl rfl rfl rfl) (by rfl) (by rfl) (x_move (v := .int .i64 x22) (by rfl)) ?_
            refine RL_pure (by exact wn1 rfl rfl rfl rfl) (by rfl) (by rfl) (x_neq (by rfl) (by rfl)) ?_
            refine RL_pure (by exact wn0 rfl) (by rfl) (by rfl) (x_pick_f (v := .bool ((a0.Item.length : Int) != x22)) (by rfl) (by rfl)) ?_
            refine RL_nil ?_
            exact ⟨⟨congrArg Value.bool (Option.some.inj hm), rfl, rfl, trivial⟩, H⟩
          · have hm := cond_t hbS hmS
            refine RL_cons (OpR_off (by exact wn2 rfl rfl rfl rfl) (by rfl) (by rfl) ?_)
            refine RL_cons (OpR_off (by exact wn2 rfl rfl rfl rfl) (by rfl) (by rfl) ?_)
            refine RL_cons (OpR_off (by exact wn2 rfl rfl rfl rfl) (by rfl) (by rfl) ?_)
            refine RL_cons (OpR_off (by exact wn2 rfl rfl rfl rfl) (by rfl) (by rfl) ?_)
            refine RL_cons (OpR_off (by exact wn2 rfl rfl rfl rfl) (by rfl) (by rfl) ?_)
            refine RL_pure (by exact wn0 rfl) (by rfl) (by rfl) (x_pick_t (v := .bool true) (by rfl) (by rfl)) ?_
            refine RL_nil ?_
            exact ⟨⟨congrArg Value.bool (Option.some.inj hm), rfl, rfl, trivial⟩, H⟩
        · rintro r' w' ⟨hA, H⟩
          obtain ⟨r27, rfl⟩ := regen _ hA; clear hA
          obtain ⟨w28, rfl⟩ : ∃ W : World, W = w' := ⟨_, rfl⟩
          show RL _ _ _ _ _ _ _
          refine RL_pure (by exact wn0 rfl) (by rfl) (by rfl) (x_move (v := .bool b26) (by rfl)) ?_
          obtain ⟨b29, hmS, hm⟩ := bind_some hm
          refine RL_cut 6 (fun r' w' => Agr [(51, .bool b29), (1, .pointer (some ⟨b17, 0, none⟩))] r' ∧ Sep ok w w' [.blk b17 25 [.int .i64 a0.W, .int .i64 a0.H, .slice A1 a0.Color.length cp2, .slice A5 a0.Depth.length cp6, .slice A9 a0.Item.length cp10, .slice A13 a0.Tri.length cp14]] [RE.rd k_Ar4_Int A1 cp2 a0.Color, RE.rd kInt A5 cp6 a0.Depth, RE.rd kInt A9 cp10 a0.Item, RE.rd kInt A13 cp14 a0.Tri]) ?_ ?_
          · cases hbS : b26
            · have hm := cond_f hbS hmS
              refine RL_pure (by exact wn1 rfl rfl rfl rfl) (by rfl) (by rfl) (x_fieldAddr fo25_5 (by rfl)) ?_
              refine RL_pure (by exact wn1 rfl rfl rfl rfl) (by rfl) (by rfl) (x_load (j := 5) (v := .slice A13 a0.Tri.length cp14) sc23 (by rfl) (H.cells (i := 0) (by rfl)) (by rfl)) ?_
              refine RL_pure (by exact wn1 rfl rfl rfl rfl) (by rfl) (by rfl) (x_len sl23 (by rfl)) ?_
              refine RL_pure (by exact wn1 rfl rfl rfl rfl) (by rfl) (by rfl) (x_move (v := .int .i64 x22) (by rfl)) ?_
              refine RL_pure (by exact wn1 rfl rfl rfl rfl) (by rfl) (by rfl) (x_neq (by rfl) (by rfl)) ?_
              refine RL_pure (by exact wn0 rfl) (by rfl) (by rfl) (x_pick_f (v := .bool ((a0.Tri.length : Int) != x22)) (by rfl) (by rfl)) ?_
              refine RL_nil ?_
              exact ⟨⟨congrArg Value.bool (Option.some.inj hm), rfl, trivial⟩, H⟩
            · have hm := cond_t hbS hmS
              refine RL_cons (OpR_off (by exact wn2 rfl rfl rfl rfl) (by rfl) (by rfl) ?_)
              refine RL_cons (OpR_off (by exact wn2 rfl rfl rfl rfl) (by rfl) (by rfl) ?_)
              refine RL_cons (OpR_off (by exact wn2 rfl rfl rfl rfl) (by rfl) (by rfl) ?_)
              refine RL_cons (OpR_off (by exact wn2 rfl rfl rfl rfl) (by rfl) (by rfl) ?_)
              refine RL_cons (OpR_off (by exact wn2 rfl rfl rfl rfl) (by rfl) (by rfl) ?_)
              refine RL_pure (by exact wn0 rfl) (by rfl) (by rfl) (x_pick_t (v := .bool true) (by rfl) (by rfl)) ?_
              refine RL_nil ?_
              exact ⟨⟨congrArg Value.bool (Option.some.inj hm), rfl, trivial⟩, H⟩
          · rintro r' w' ⟨hA, H⟩
            obtain ⟨r30, rfl⟩ := regen _ hA; clear hA
            obtain ⟨w31, rfl⟩ : ∃ W : World, W = w' := ⟨_, rfl⟩
            show RL _ _ _ _ _ _ _
            refine RL_nil ?_
            refine W_cond (by rfl) (fun hb => ?_) (fun hb => ?_)
            · have hm := cond_t hb hm
              refine W_seq ?_
              refine W_region ?_
              refine RL_pure (by exact wn0 rfl) (by rfl) (by rfl) (x_assign (v := .int .i64 8) (by rfl)) ?_
              refine RL_nil ?_
              refine W_ret ?_
              obtain rfl := Option.some.inj hm
              exact ⟨[.int .i64 8], (.tmp (by rfl) rfl), rfl, H.none_⟩
            · have hm := cond_f hb hm
              refine W_skip ?_
              refine W_seq ?_
              refine W_seq ?_
              refine W_region ?_
              refine RL_pure (by exact wn0 rfl) (by rfl) (by rfl) (x_fieldAddr fo25_3 (by rfl)) ?_
              refine RL_pure (by exact wn0 rfl) (by rfl) (by rfl) (x_load (j := 3) (v := .slice A5 a0.Depth.length cp6) sc23 (by rfl) (H.cells (i := 0) (by rfl)) (by rfl)) ?_
              refine RL_pure (by exact wn0 rfl) (by rfl) (by rfl) (x_len sl23 (by rfl)) ?_
              refine RL_pure (by exact wn0 rfl) (by rfl) (by rfl) (x_move (v := .int .i64 0) (by rfl)) ?_
              refine RL_nil ?_
              refine W_block ?_
              refine W_loop (fun k1 r' w' => ∃ (y55_1 : Int), m33_l1 K a0 k1 y55_1 = some res ∧ Agr [(1, .pointer (some ⟨b17, 0, none⟩)), (53, .slice A5 a0.Depth.length cp6), (54, .int .i64 (a0.Depth.length : Int)), (55, .int .i64 y55_1)] r' ∧ Sep ok w w' [.blk b17 25 [.int .i64 a0.W, .int .i64 a0.H, .slice A1 a0.Color.length cp2, .slice A5 a0.Depth.length cp6, .slice A9 a0.Item.length cp10, .slice A13 a0.Tri.length cp14]] [RE.rd k_Ar4_Int A1 cp2 a0.Color, RE.rd kInt A5 cp6 a0.Depth, RE.rd kInt A9 cp10 a0.Item, RE.rd kInt A13 cp14 a0.Tri]) K ?_ ?_
              · exact ⟨0, hm, ⟨rfl, rfl, rfl, rfl, trivial⟩, H⟩
              · rintro k1 r' w' ⟨y55_1, hm, hA, H⟩
                obtain ⟨r32, rfl⟩ := regen _ hA; clear hA
                obtain ⟨w33, rfl⟩ : ∃ W : World, W = w' := ⟨_, rfl⟩
                cases k1 with
                | zero => exact (none_some hm).elim
                | succ k1 =>
                  have hm : m33_l1b K a0 (m33_l1 K a0 k1) y55_1 = some res := hm
                  unfold m33_l1b at hm
                  obtain ⟨rec1, hrec1⟩ : ∃ f, m33_l1 K a0 k1 = f := ⟨_, rfl⟩
                  rw [hrec1] at hm
                  refine W_seq ?_
                  refine W_region ?_
                  refine RL_pure (by exact wn0 rfl) (by rfl) (by rfl) (x_lss (by rfl) (by rfl)) ?_
                  refine RL_nil ?_
                  refine W_seq ?_
                  refine W_cond (by rfl) (fun hb => ?_) (fun hb => ?_)
                  · have hm := cond_t hb hm
                    refine W_skip ?_
                    refine W_seq ?_
                    refine W_block ?_
                    refine W_seq ?_
                    refine W_region ?_
                    refine RL_pure (by exact wn0 rfl) (by rfl) (by rfl) (x_move (v := .int .i64 y55_1) (by rfl)) ?_
                    obtain ⟨el34, h35, h36, he37, hm⟩ := idx_some hm
                    obtain ⟨g39, o40, hA38⟩ := (H.rd (i := 1) (by rfl)).addr he37
                    refine RL_pure (by exact wn0 rfl) (by rfl) (by rfl) (x_indexAddr sl23 sz3 (by rfl) (by rfl) hA38 h35 h36) ?_
                    refine RL_pure (by exact wn0 rfl) (by rfl) (by rfl) (x_load (j := 0) (v := .int .i64 el34) sc3 (by rfl) (Rd.flatAt (n := 1) (H.rd (i := 1) (by rfl)) hA38 he37) (by rfl)) ?_
                    refine RL_pure (by exact wn0 rfl) (by rfl) (by rfl) (x_assign (v := .int .i64 y55_1) (by rfl)) ?_
                    refine RL_pure (by exact wn0 rfl) (by rfl) (by rfl) (x_assign (v := .int .i64 el34) (by rfl)) ?_
                    refine RL_nil ?_
                    refine W_seq ?_
                    refine W_region ?_
                    refine RL_pure (by exact wn0 rfl) (by rfl) (by rfl) (x_move (v := .int .i64 el34) (by rfl)) ?_
                    refine RL_pure (by exact wn0 rfl) (by rfl) (by rfl) (x_eql (by rfl) (by rfl)) ?_
                    refine RL_pure (by exact wn0 rfl) (by rfl) (by rfl) (x_move (v := .bool (el34 == (-2048))) (by rfl)) ?_
                    obtain ⟨b41, hmS, hm⟩ := bind_some hm
                    refine RL_cut 7 (fun r' w' => Agr [(69, .bool b41), (1, .pointer (some ⟨b17, 0, none⟩)), (4, .int .i64 y55_1), (5, .int .i64 el34), (53, .slice A5 a0.Depth.length cp6), (54, .int .i64 (a0.Depth.length : Int)), (55, .int .i64 y55_1)] r' ∧ Sep ok w w' [.blk b17 25 [.int .i64 a0.W, .int .i64 a0.H, .slice A1 a0.Color.length cp2, .slice A5 a0.Depth.length cp6, .slice A9 a0.Item.length cp10, .slice A13 a0.Tri.length cp14]] [RE.rd k_Ar4_Int A1 cp2 a0.Color, RE.rd kInt A5 cp6 a0.Depth, RE.rd kInt A9 cp10 a0.Item, RE.rd kInt A13 cp14 a0.Tri]) ?_ ?_
                    · cases hbS : (el34 == (-2048))
                      · have hm := cond_f hbS hmS
                        refine RL_cons (OpR_off (by exact wn2 rfl rfl rfl rfl) (by rfl) (by rfl) ?_)
                        refine RL_cons (OpR_off (by exact wn2 rfl rfl rfl rfl) (by rfl) (by rfl) ?_)
                        refine RL_cons (OpR_off (by exact wn2 rfl rfl rfl rfl) (by rfl) (by rfl) ?_)
                        refine RL_cons (OpR_off (by exact wn2 rfl rfl rfl rfl) (by rfl) (by rfl) ?_)
                        refine RL_cons (OpR_off (by exact wn2 rfl rfl rfl rfl) (by rfl) (by rfl) ?_)
                        refine RL_cons (OpR_off (by exact wn2 rfl rfl rfl rfl) (by rfl) (by rfl) ?_)
                        refine RL_pure (by exact wn0 rfl) (by rfl) (by rfl) (x_pick_f (v := .bool false) (by rfl) (by rfl)) ?_
                        refine RL_nil ?_
                        exact ⟨⟨congrArg Value.bool (Option.some.inj hm), rfl, rfl, rfl, rfl, rfl, rfl, trivial⟩, H⟩
                      · have hm := cond_t hbS hmS
                        refine RL_pure (by exact wn1 rfl rfl rfl rfl) (by rfl) (by rfl) (x_fieldAddr fo25_4 (by rfl)) ?_
                        refine RL_pure (by exact wn1 rfl rfl rfl rfl) (by rfl) (by rfl) (x_load (j := 4) (v := .slice A9 a0.Item.length cp10) sc23 (by rfl) (H.cells (i := 0) (by rfl)) (by rfl)) ?_
                        refine RL_pure (by exact wn1 rfl rfl rfl rfl) (by rfl) (by rfl) (x_move (v := .int .i64 y55_1) (by rfl)) ?_
                        obtain ⟨el42, h43, h44, he45, hm⟩ := idx_some hm
                        obtain ⟨g47, o48, hA46⟩ := (H.rd (i := 2) (by rfl)).addr he45
                        refine RL_pure (by exact wn1 rfl rfl rfl rfl) (by rfl) (by rfl) (x_indexAddr sl23 sz3 (by rfl) (by rfl) hA46 h43 h44) ?_
                        refine RL_pure (by exact wn1 rfl rfl rfl rfl) (by rfl) (by rfl) (x_load (j := 0) (v := .int .i64 el42) sc3 (by rfl) (Rd.flatAt (n := 1) (H.rd (i := 2) (by rfl)) hA46 he45) (by rfl)) ?_
                        refine RL_pure (by exact wn1 rfl rfl rfl rfl) (by rfl) (by rfl) (x_eql (by rfl) (by rfl)) ?_
                        refine RL_pure (by exact wn0 rfl) (by rfl) (by rfl) (x_pick_t (v := .bool (el42 == (-1))) (by rfl) (by rfl)) ?_
                        refine RL_nil ?_
                        exact ⟨⟨congrArg Value.bool (Option.some.inj hm), rfl, rfl, rfl, rfl, rfl, rfl, trivial⟩, H⟩
                    · rintro r' w' ⟨hA, H⟩
                      obtain ⟨r49, rfl⟩ := regen _ hA; clear hA
                      obtain ⟨w50, rfl⟩ : ∃ W : World, W = w' := ⟨_, rfl⟩
                      show RL _ _ _ _ _ _ _
                      refine RL_pure (by exact wn0 rfl) (by rfl) (by rfl) (x_move (v := .bool b41) (by rfl)) ?_
                      obtain ⟨b51, hmS, hm⟩ := bind_some hm
                      refine RL_cut 7 (fun r' w' => Agr [(77, .bool b51), (1, .pointer (some ⟨b17, 0, none⟩)), (4, .int .i64 y55_1), (5, .int .i64 el34), (53, .slice A5 a0.Depth.length cp6), (54, .int .i64 (a0.Depth.length : Int)), (55, .int .i64 y55_1)] r' ∧ Sep ok w w' [.blk b17 25 [.int .i64 a0.W, .int .i64 a0.H, .slice A1 a0.Color.length cp2, .slice A5 a0.Depth.length cp6, .slice A9 a0.Item.length cp10, .slice A13 a0.Tri.length cp14]] [RE.rd k_Ar4_Int A1 cp2 a0.Color, RE.rd kInt A5 cp6 a0.Depth, RE.rd kInt A9 cp10 a0.Item, RE.rd kInt A13 cp14 a0.Tri]) ?_ ?_
                      · cases hbS : b41
                        · have hm := cond_f hbS hmS
                          refine RL_cons (OpR_off (by exact wn2 rfl rfl rfl rfl) (by rfl) (by rfl) ?_)
                          refine RL_cons (OpR_off (by exact wn2 rfl rfl rfl rfl) (by rfl) (by rfl) ?_)
                          refine RL_cons (OpR_off (by exact wn2 rfl rfl rfl rfl) (by rfl) (by rfl) ?_)
                          refine RL_cons (OpR_off (by exact wn2 rfl rfl rfl rfl) (by rfl) (by rfl) ?_)
                          refine RL_cons (OpR_off (by exact wn2 rfl rfl rfl rfl) (by rfl) (by rfl) ?_)
                          refine RL_cons (OpR_off (by exact wn2 rfl rfl rfl rfl) (by rfl) (by rfl) ?_)
                          refine RL_pure (by exact wn0 rfl) (by rfl) (by rfl) (x_pick_f (v := .bool false) (by rfl) (by rfl)) ?_
                          refine RL_nil ?_
                          exact ⟨⟨congrArg Value.bool (Option.some.inj hm), rfl, rfl, rfl, rfl, rfl, rfl, trivial⟩, H⟩
                        · have hm := cond_t hbS hmS
                          refine RL_pure (by exact wn1 rfl rfl rfl rfl) (by rfl) (by rfl) (x_fieldAddr fo25_5 (by rfl)) ?_
                          refine RL_pure (by exact wn1 rfl rfl rfl rfl) (by rfl) (by rfl) (x_load (j := 5) (v := .slice A13 a0.Tri.length cp14) sc23 (by rfl) (H.cells (i := 0) (by rfl)) (by rfl)) ?_
                          refine RL_pure (by exact wn1 rfl rfl rfl rfl) (by rfl) (by rfl) (x_move (v := .int .i64 y55_1) (by rfl)) ?_
                          obtain ⟨el52, h53, h54, he55, hm⟩ := idx_some hm
                          obtain ⟨g57, o58, hA56⟩ := (H.rd (i := 3) (by rfl)).addr he55
                          refine RL_pure (by exact wn1 rfl rfl rfl rfl) (by rfl) (by rfl) (x_indexAddr sl23 sz3 (by rfl) (by rfl) hA56 h53 h54) ?_
                          refine RL_pure (by exact wn1 rfl rfl rfl rfl) (by rfl) (by rfl) (x_load (j := 0) (v := .int .i64 el52) sc3 (by rfl) (Rd.flatAt (n := 1) (H.rd (i := 3) (by rfl)) hA56 he55) (by rfl)) ?_
                          refine RL_pure (by exact wn1 rfl rfl rfl rfl) (by rfl) (by rfl) (x_eql (by rfl) (by rfl)) ?_
                          refine RL_pure (by exact wn0 rfl) (by rfl) (by rfl) (x_pick_t (v := .bool (el52 == (-1))) (by rfl) (by rfl)) ?_
                          refine RL_nil ?_
                          exact ⟨⟨congrArg Value.bool (Option.some.inj hm), rfl, rfl, rfl, rfl, rfl, rfl, trivial⟩, H⟩
                      · rintro r' w' ⟨hA, H⟩
                        obtain ⟨r59, rfl⟩ := regen _ hA; clear hA
                        obtain ⟨w60, rfl⟩ : ∃ W : World, W = w' := ⟨_, rfl⟩
                        show RL _ _ _ _ _ _ _
                        refine RL_pure (by exact wn0 rfl) (by rfl) (by rfl) (x_assign (v := .bool b51) (by rfl)) ?_
                        refine RL_nil ?_
                        refine W_seq ?_
                        refine W_draw [.free 0, .free 1, .free 2, .free 3, .free 4, .take 5, .free 6, .free 7, .take 8, .free 9, .take 10, .free 11, .free 12, .take 13, .run 14, .free 15, .free 16] (fun wS => Sep ok w wS [.blk b17 25 [.int .i64 a0.W, .int .i64 a0.H, .slice A1 a0.Color.length cp2, .slice A5 a0.Depth.length cp6, .slice A9 a0.Item.length cp10, .slice A13 a0.Tri.length cp14]] [RE.rd k_Ar4_Int A1 cp2 a0.Color, RE.rd kInt A5 cp6 a0.Depth, RE.rd kInt A9 cp10 a0.Item, RE.rd kInt A13 cp14 a0.Tri]) [] [0, 1, 2, 3, 4, 6, 7, 9, 11, 12, 15, 16] mixed0 (by kernel_rfl) (by kernel_rfl) (by kernel_rfl) (by rfl) (by exact H.drew) ?_
                        obtain ⟨w61, hW⟩ : ∃ W : World, W = { w60 with drawn := w60.drawn + 1 } := ⟨_, rfl⟩
                        rw [← hW]
                        have H : Sep ok w w61 [.blk b17 25 [.int .i64 a0.W, .int .i64 a0.H, .slice A1 a0.Color.length cp2, .slice A5 a0.Depth.length cp6, .slice A9 a0.Item.length cp10, .slice A13 a0.Tri.length cp14]] [RE.rd k_Ar4_Int A1 cp2 a0.Color, RE.rd kInt A5 cp6 a0.Depth, RE.rd kInt A9 cp10 a0.Item, RE.rd kInt A13 cp14 a0.Tri] := by rw [hW]; exact H.drew
                        clear hW
                        refine PR_free (by rfl) (by rfl) (by rfl) (by exact wn0 rfl) (fun wS => (x_move (v := .bool b51) (by rfl))) ?_
                        refine PR_free (by rfl) (by rfl) (by rfl) (by exact wn0 rfl) (fun wS => (x_not (by rfl))) ?_
                        refine PR_free (by rfl) (by rfl) (by rfl) (by exact wn0 rfl) (fun wS => (x_move (v := .bool (!b51)) (by rfl))) ?_
                        obtain ⟨b62, hmS, hm⟩ := bind_some hm
                        refine PR_cut 14 (fun r' w' => Agr [(94, .bool b62), (1, .pointer (some ⟨b17, 0, none⟩)), (53, .slice A5 a0.Depth.length cp6), (54, .int .i64 (a0.Depth.length : Int)), (55, .int .i64 y55_1)] r' ∧ Sep ok w w' [.blk b17 25 [.int .i64 a0.W, .int .i64 a0.H, .slice A1 a0.Color.length cp2, .slice A5 a0.Depth.length cp6, .slice A9 a0.Item.length cp10, .slice A13 a0.Tri.length cp14]] [RE.rd k_Ar4_Int A1 cp2 a0.Color, RE.rd kInt A5 cp6 a0.Depth, RE.rd kInt A9 cp10 a0.Item, RE.rd kInt A13 cp14 a0.Tri]) ?_ ?_
                        · cases hbS : (!b51)
                          · have hm := cond_f hbS hmS
                            refine PR_offF (by rfl) (by rfl) (by rfl) (by exact wn2 rfl rfl rfl rfl) ?_
                            refine PR_offF (by rfl) (by rfl) (by rfl) (by exact wn2 rfl rfl rfl rfl) ?_
                            refine PR_off (by rfl) (by rfl) (by rfl) (by exact wn2 rfl rfl rfl rfl) ?_
                            refine PR_offF (by rfl) (by rfl) (by rfl) (by exact wn2 rfl rfl rfl rfl) ?_
                            refine PR_offF (by rfl) (by rfl) (by rfl) (by exact wn2 rfl rfl rfl rfl) ?_
                            refine PR_off (by rfl) (by rfl) (by rfl) (by exact wn2 rfl rfl rfl rfl) ?_
                            refine PR_offF (by rfl) (by rfl) (by rfl) (by exact wn2 rfl rfl rfl rfl) ?_
                            refine PR_off (by rfl) (by rfl) (by rfl) (by exact wn2 rfl rfl rfl rfl) ?_
                            refine PR_offF (by rfl) (by rfl) (by rfl) (by exact wn2 rfl rfl rfl rfl) ?_
                            refine PR_offF (by rfl) (by rfl) (by rfl) (by exact wn2 rfl rfl rfl rfl) ?_
                            refine PR_off (by rfl) (by rfl) (by rfl) (by exact wn2 rfl rfl rfl rfl) ?_
                            refine PR_run (by rfl) (OpR_off (by exact wn2 rfl rfl rfl rfl) (by rfl) (by rfl) ⟨H, ?_⟩)
                            refine PR_offF (by rfl) (by rfl) (by rfl) (by exact wn2 rfl rfl rfl rfl) ?_
                            refine PR_free (by rfl) (by rfl) (by rfl) (by exact wn0 rfl) (fun wS => (x_pick_f (v := .bool false) (by rfl) (by rfl))) ?_
                            refine PR_nil ?_
                            exact ⟨⟨congrArg Value.bool (Option.some.inj hm), rfl, rfl, rfl, rfl, trivial⟩, H⟩
                          · have hm := cond_t hbS hmS
                            refine PR_free (by rfl) (by rfl) (by rfl) (by exact wn1 rfl rfl rfl rfl) (fun wS => (x_move (v := .int .i64 el34) (by rfl))) ?_
                            refine PR_free (by rfl) (by rfl) (by rfl) (by exact wn1 rfl rfl rfl rfl) (fun wS => (x_fieldAddr fo25_4 (by rfl))) ?_
                            refine PR_take (by rfl) (by rfl) (by rfl) (by exact wn1 rfl rfl rfl rfl) (fun wS (H : Sep ok w wS [.blk b17 25 [.int .i64 a0.W, .int .i64 a0.H, .slice A1 a0.Color.length cp2, .slice A5 a0.Depth.length cp6, .slice A9 a0.Item.length cp10, .slice A13 a0.Tri.length cp14]] [RE.rd k_Ar4_Int A1 cp2 a0.Color, RE.rd kInt A5 cp6 a0.Depth, RE.rd kInt A9 cp10 a0.Item, RE.rd kInt A13 cp14 a0.Tri]) => (x_load (j := 4) (v := .slice A9 a0.Item.length cp10) sc23 (by rfl) (H.cells (i := 0) (by rfl)) (by rfl))) ?_
                            refine PR_free (by rfl) (by rfl) (by rfl) (by exact wn1 rfl rfl rfl rfl) (fun wS => (x_move (v := .int .i64 y55_1) (by rfl))) ?_
                            obtain ⟨el63, h64, h65, he66, hm⟩ := idx_some hm
                            obtain ⟨g68, o69, hA67⟩ := (H.rd (i := 2) (by rfl)).addr he66
                            refine PR_free (by rfl) (by rfl) (by rfl) (by exact wn1 rfl rfl rfl rfl) (fun wS => (x_indexAddr sl23 sz3 (by rfl) (by rfl) hA67 h64 h65)) ?_
                            refine PR_take (by rfl) (by rfl) (by rfl) (by exact wn1 rfl rfl rfl rfl) (fun wS (H : Sep ok w wS [.blk b17 25 [.int .i64 a0.W, .int .i64 a0.H, .slice A1 a0.Color.length cp2, .slice A5 a0.Depth.length cp6, .slice A9 a0.Item.length cp10, .slice A13 a0.Tri.length cp14]] [RE.rd k_Ar4_Int A1 cp2 a0.Color, RE.rd kInt A5 cp6 a0.Depth, RE.rd kInt A9 cp10 a0.Item, RE.rd kInt A13 cp14 a0.Tri]) => (x_load (j := 0) (v := .int .i64 el63) sc3 (by rfl) (Rd.flatAt (n := 1) (H.rd (i := 2) (by rfl)) hA67 he66) (by rfl))) ?_
                            refine PR_free (by rfl) (by rfl) (by rfl) (by exact wn1 rfl rfl rfl rfl) (fun wS => (x_fieldAddr fo25_5 (by rfl))) ?_
                            refine PR_take (by rfl) (by rfl) (by rfl) (by exact wn1 rfl rfl rfl rfl) (fun wS (H : Sep ok w wS [.blk b17 25 [.int .i64 a0.W, .int .i64 a0.H, .slice A1 a0.Color.length cp2, .slice A5 a0.Depth.length cp6, .slice A9 a0.Item.length cp10, .slice A13 a0.Tri.length cp14]] [RE.rd k_Ar4_Int A1 cp2 a0.Color, RE.rd kInt A5 cp6 a0.Depth, RE.rd kInt A9 cp10 a0.Item, RE.rd kInt A13 cp14 a0.Tri]) => (x_load (j := 5) (v := .slice A13 a0.Tri.length cp14) sc23 (by rfl) (H.cells (i := 0) (by rfl)) (by rfl))) ?_
                            refine PR_free (by rfl) (by rfl) (by rfl) (by exact wn1 rfl rfl rfl rfl) (fun wS => (x_move (v := .int .i64 y55_1) (by rfl))) ?_
                            obtain ⟨el70, h71, h72, he73, hm⟩ := idx_some hm
                            obtain ⟨g75, o76, hA74⟩ := (H.rd (i := 3) (by rfl)).addr he73
                            refine PR_free (by rfl) (by rfl) (by rfl) (by exact wn1 rfl rfl rfl rfl) (fun wS => (x_indexAddr sl23 sz3 (by rfl) (by rfl) hA74 h71 h72)) ?_
                            refine PR_take (by rfl) (by rfl) (by rfl) (by exact wn1 rfl rfl rfl rfl) (fun wS (H : Sep ok w wS [.blk b17 25 [.int .i64 a0.W, .int .i64 a0.H, .slice A1 a0.Color.length cp2, .slice A5 a0.Depth.length cp6, .slice A9 a0.Item.length cp10, .slice A13 a0.Tri.length cp14]] [RE.rd k_Ar4_Int A1 cp2 a0.Color, RE.rd kInt A5 cp6 a0.Depth, RE.rd kInt A9 cp10 a0.Item, RE.rd kInt A13 cp14 a0.Tri]) => (x_load (j := 0) (v := .int .i64 el70) sc3 (by rfl) (Rd.flatAt (n := 1) (H.rd (i := 3) (by rfl)) hA74 he73) (by rfl))) ?_
                            obtain ⟨v78, hv77, hm⟩ := bind_some hm
                            refine PR_run (by rfl) (O_call (by exact wn1 rfl rfl rfl rfl) (by rfl) (by rfl) (x_callL (by rfl) (args := [.int .i64 el34, .int .i64 el63, .int .i64 el70]) (by rfl) (cf75 _ _)) (c75 (fun _ => True) K w61 el34 el63 el70  v78 hv77) ?_)
                            rintro e w79 ⟨rfl, H2⟩
                            have H : Sep ok w w79 [.blk b17 25 [.int .i64 a0.W, .int .i64 a0.H, .slice A1 a0.Color.length cp2, .slice A5 a0.Depth.length cp6, .slice A9 a0.Item.length cp10, .slice A13 a0.Tri.length cp14]] [RE.rd k_Ar4_Int A1 cp2 a0.Color, RE.rd kInt A5 cp6 a0.Depth, RE.rd kInt A9 cp10 a0.Item, RE.rd kInt A13 cp14 a0.Tri] := H.below H2.base
                            clear H2
                            refine ⟨_, rfl, H, ?_⟩
                            show PR _ _ _ _ _ _ _ _
                            refine PR_free (by rfl) (by rfl) (by rfl) (by exact wn1 rfl rfl rfl rfl) (fun wS => (x_not (by rfl))) ?_
                            refine PR_free (by rfl) (by rfl) (by rfl) (by exact wn0 rfl) (fun wS => (x_pick_t (v := .bool (!v78)) (by rfl) (by rfl))) ?_
                            refine PR_nil ?_
                            exact ⟨⟨congrArg Value.bool (Option.some.inj hm), rfl, rfl, rfl, rfl, trivial⟩, H⟩
                        · rintro r' w' ⟨hA, H⟩
                          obtain ⟨r80, rfl⟩ := regen _ hA; clear hA
                          obtain ⟨w81, rfl⟩ : ∃ W : World, W = w' := ⟨_, rfl⟩
                          show PR _ _ _ _ _ _ _ _
                          refine PR_nil ?_
                          refine W_cond (by rfl) (fun hb => ?_) (fun hb => ?_)
                          · have hm := cond_t hb hm
                            refine W_seq ?_
                            refine W_region ?_
                            refine RL_pure (by exact wn0 rfl) (by rfl) (by rfl) (x_assign (v := .int .i64 8) (by rfl)) ?_
                            refine RL_nil ?_
                            refine W_ret ?_
                            obtain rfl := Option.some.inj hm
                            exact ⟨[.int .i64 8], (.tmp (by rfl) rfl), rfl, H.none_⟩
                          · have hm := cond_f hb hm
                            refine W_skip ?_
                            refine W_region ?_
                            obtain ⟨x82, ex82, qx82, ux82, hm⟩ := ck_some hm
                            refine RL_pure (by exact wn0 rfl) (by rfl) (by rfl) (x_add (by rfl) (by rfl) ux82) ?_
                            refine RL_pure (by exact wn0 rfl) (by rfl) (by rfl) (x_move (v := .int .i64 x82) (by rfl)) ?_
                            refine RL_nil ?_
                            subst hrec1
                            exact ⟨k1, Nat.lt_succ_self k1, x82, hm, ⟨rfl, rfl, rfl, rfl, trivial⟩, H⟩
                  · have hm := cond_f hb hm
                    refine W_exit ?_
                    refine W_seq ?_
                    refine W_region ?_
                    refine RL_pure (by exact wn0 rfl) (by rfl) (by rfl) (x_assign (v := .int .i64 0) (by rfl)) ?_
                    refine RL_nil ?_
                    refine W_ret ?_
                    obtain rfl := Option.some.inj hm
                    exact ⟨[.int .i64 0], (.tmp (by rfl) rfl), rfl, H.none_⟩
end Go.Proofs.YtobkigllalbkiaaV.M
