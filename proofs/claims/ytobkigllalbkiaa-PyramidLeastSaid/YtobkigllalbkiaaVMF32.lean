/- A plain Lean function that answers as the Go function does (none: not told), and the proof that a call answers so. Written by program. -/
import Derived.Test.YtobkigllalbkiaaVMTy
import Derived.Test.YtobkigllalbkiaaVMF77
import Derived.Test.YtobkigllalbkiaaVMF78
set_option linter.unusedVariables false
namespace Go.Proofs.YtobkigllalbkiaaV.M
open Go.RowKit Go.Proofs.YtobkigllalbkiaaV
/-- diorama/frame.Same -/
def m32 (K : Nat) (a0 : S_Frame) (a1 : S_Frame) : Option (Bool) :=
  ((bif (a0.W == a1.W) then some (a0.H == a1.H) else some false).bind fun b37 => ((bif b37 then ((m77 K a0.Color a1.Color).bind fun v42 => some v42) else some false).bind fun b40 => ((bif b40 then ((m78 K a0.Depth a1.Depth).bind fun v48 => some v48) else some false).bind fun b46 => ((bif b46 then ((m78 K a0.Item a1.Item).bind fun v54 => some v54) else some false).bind fun b52 => ((bif b52 then ((m78 K a0.Tri a1.Tri).bind fun v60 => some v60) else some false).bind fun b58 => some b58)))))
set_option maxRecDepth 100000 in
set_option maxHeartbeats 4000000 in
theorem c32 (ok : Nat → Prop) (K : Nat) (w : World) (a0 : S_Frame) (A1 : Option Addr) (cp2 : Nat) (A5 : Option Addr) (cp6 : Nat) (A9 : Option Addr) (cp10 : Nat) (A13 : Option Addr) (cp14 : Nat) (a1 : S_Frame) (A17 : Option Addr) (cp18 : Nat) (A21 : Option Addr) (cp22 : Nat) (A25 : Option Addr) (cp26 : Nat) (A29 : Option Addr) (cp30 : Nat) (hR3 : Rd k_Ar4_Int w ok A1 cp2 a0.Color) (hR7 : Rd kInt w ok A5 cp6 a0.Depth) (hR11 : Rd kInt w ok A9 cp10 a0.Item) (hR15 : Rd kInt w ok A13 cp14 a0.Tri) (hR19 : Rd k_Ar4_Int w ok A17 cp18 a1.Color) (hR23 : Rd kInt w ok A21 cp22 a1.Depth) (hR27 : Rd kInt w ok A25 cp26 a1.Item) (hR31 : Rd kInt w ok A29 cp30 a1.Tri) (res : Bool) (hm : m32 K a0 a1 = some res) :
    Calls Try.prog 32 #[.agg #[.int .i64 a0.W, .int .i64 a0.H, .slice A1 a0.Color.length cp2, .slice A5 a0.Depth.length cp6, .slice A9 a0.Item.length cp10, .slice A13 a0.Tri.length cp14], .agg #[.int .i64 a1.W, .int .i64 a1.H, .slice A17 a1.Color.length cp18, .slice A21 a1.Depth.length cp22, .slice A25 a1.Item.length cp26, .slice A29 a1.Tri.length cp30]] w (fun e w' => e = .returned (tup [.bool res]) ∧ Sep ok w w' [] []) := by
  refine calls_W (args := [.agg #[.int .i64 a0.W, .int .i64 a0.H, .slice A1 a0.Color.length cp2, .slice A5 a0.Depth.length cp6, .slice A9 a0.Item.length cp10, .slice A13 a0.Tri.length cp14], .agg #[.int .i64 a1.W, .int .i64 a1.H, .slice A17 a1.Color.length cp18, .slice A21 a1.Depth.length cp22, .slice A25 a1.Item.length cp26, .slice A29 a1.Tri.length cp30]]) Try.func32 rfl Try.ntmps32 Try.results32 rfl fun r hr => ?_
  obtain ⟨r1, rfl⟩ := regen (r := r) [(0, .agg #[.int .i64 a0.W, .int .i64 a0.H, .slice A1 a0.Color.length cp2, .slice A5 a0.Depth.length cp6, .slice A9 a0.Item.length cp10, .slice A13 a0.Tri.length cp14]), (1, .agg #[.int .i64 a1.W, .int .i64 a1.H, .slice A17 a1.Color.length cp18, .slice A21 a1.Depth.length cp22, .slice A25 a1.Item.length cp26, .slice A29 a1.Tri.length cp30])] ⟨hr 0 _ rfl, hr 1 _ rfl, trivial⟩
  have H : Sep ok w w [] [RE.rd k_Ar4_Int A1 cp2 a0.Color, RE.rd kInt A5 cp6 a0.Depth, RE.rd kInt A9 cp10 a0.Item, RE.rd kInt A13 cp14 a0.Tri, RE.rd k_Ar4_Int A17 cp18 a1.Color, RE.rd kInt A21 cp22 a1.Depth, RE.rd kInt A25 cp26 a1.Item, RE.rd kInt A29 cp30 a1.Tri] := Sep.arg (Sep.arg (Sep.arg (Sep.arg (Sep.arg (Sep.arg (Sep.arg (Sep.arg (Sep.start ok w) (re := RE.rd k_Ar4_Int A1 cp2 a0.Color) rfl rfl hR3) (re := RE.rd kInt A5 cp6 a0.Depth) rfl rfl hR7) (re := RE.rd kInt A9 cp10 a0.Item) rfl rfl hR11) (re := RE.rd kInt A13 cp14 a0.Tri) rfl rfl hR15) (re := RE.rd k_Ar4_Int A17 cp18 a1.Color) rfl rfl hR19) (re := RE.rd kInt A21 cp22 a1.Depth) rfl rfl hR23) (re := RE.rd kInt A25 cp26 a1.Item) rfl rfl hR27) (re := RE.rd kInt A29 cp30 a1.Tri) rfl rfl hR31
  unfold m32 at hm
  refine W_seq ?_
  refine W_region ?_
  refine RL_cons (O_box (by exact wn0 rfl) (by rfl) (by rfl) (by rfl) H (fun w34 b33 (H : Sep ok w w34 [.blk b33 25 [.int .i64 a0.W, .int .i64 a0.H, .slice A1 a0.Color.length cp2, .slice A5 a0.Depth.length cp6, .slice A9 a0.Item.length cp10, .slice A13 a0.Tri.length cp14]] [RE.rd k_Ar4_Int A1 cp2 a0.Color, RE.rd kInt A5 cp6 a0.Depth, RE.rd kInt A9 cp10 a0.Item, RE.rd kInt A13 cp14 a0.Tri, RE.rd k_Ar4_Int A17 cp18 a1.Color, RE.rd kInt A21 cp22 a1.Depth, RE.rd kInt A25 cp26 a1.Item, RE.rd kInt A29 cp30 a1.Tri]) => ?_))
  refine RL_cons (O_box (by exact wn0 rfl) (by rfl) (by rfl) (by rfl) H (fun w36 b35 (H : Sep ok w w36 [.blk b33 25 [.int .i64 a0.W, .int .i64 a0.H, .slice A1 a0.Color.length cp2, .slice A5 a0.Depth.length cp6, .slice A9 a0.Item.length cp10, .slice A13 a0.Tri.length cp14], .blk b35 25 [.int .i64 a1.W, .int .i64 a1.H, .slice A17 a1.Color.length cp18, .slice A21 a1.Depth.length cp22, .slice A25 a1.Item.length cp26, .slice A29 a1.Tri.length cp30]] [RE.rd k_Ar4_Int A1 cp2 a0.Color, RE.rd kInt A5 cp6 a0.Depth, RE.rd kInt A9 cp10 a0.Item, RE.rd kInt A13 cp14 a0.Tri, RE.rd k_Ar4_Int A17 cp18 a1.Color, RE.rd kInt A21 cp22 a1.Depth, RE.rd kInt A25 cp26 a1.Item, RE.rd kInt A29 cp30 a1.Tri]) => ?_))
  refine RL_pure (by exact wn0 rfl) (by rfl) (by rfl) (x_assign (v := .bool false) (by rfl)) ?_
  refine RL_nil ?_
  refine W_seq ?_
  refine W_region ?_
  refine RL_pure (by exact wn0 rfl) (by rfl) (by rfl) (x_fieldAddr fo25_0 (by rfl)) ?_
  refine RL_pure (by exact wn0 rfl) (by rfl) (by rfl) (x_load (j := 0) (v := .int .i64 a0.W) sc3 (by rfl) (H.cells (i := 0) (by rfl)) (by rfl)) ?_
  refine RL_pure (by exact wn0 rfl) (by rfl) (by rfl) (x_fieldAddr fo25_0 (by rfl)) ?_
  refine RL_pure (by exact wn0 rfl) (by rfl) (by rfl) (x_load (j := 0) (v := .int .i64 a1.W) sc3 (by rfl) (H.cells (i := 1) (by rfl)) (by rfl)) ?_
  refine RL_pure (by exact wn0 rfl) (by rfl) (by rfl) (x_eql (by rfl) (by rfl)) ?_
  refine RL_pure (by exact wn0 rfl) (by rfl) (by rfl) (x_move (v := .bool (a0.W == a1.W)) (by rfl)) ?_
  obtain ⟨b37, hmS, hm⟩ := bind_some hm
  refine RL_cut 6 (fun r' w' => Agr [(16, .bool b37), (2, .pointer (some ⟨b33, 0, none⟩)), (3, .pointer (some ⟨b35, 0, none⟩))] r' ∧ Sep ok w w' [.blk b33 25 [.int .i64 a0.W, .int .i64 a0.H, .slice A1 a0.Color.length cp2, .slice A5 a0.Depth.length cp6, .slice A9 a0.Item.length cp10, .slice A13 a0.Tri.length cp14], .blk b35 25 [.int .i64 a1.W, .int .i64 a1.H, .slice A17 a1.Color.length cp18, .slice A21 a1.Depth.length cp22, .slice A25 a1.Item.length cp26, .slice A29 a1.Tri.length cp30]] [RE.rd k_Ar4_Int A1 cp2 a0.Color, RE.rd kInt A5 cp6 a0.Depth, RE.rd kInt A9 cp10 a0.Item, RE.rd kInt A13 cp14 a0.Tri, RE.rd k_Ar4_Int A17 cp18 a1.Color, RE.rd kInt A21 cp22 a1.Depth, RE.rd kInt A25 cp26 a1.Item, RE.rd kInt A29 cp30 a1.Tri]) ?_ ?_
  · cases hbS : (a0.W == a1.W)
    · have hm := cond_f hbS hmS
      refine RL_cons (OpR_off (by exact wn2 rfl rfl rfl rfl) (by rfl) (by rfl) ?_)
      refine RL_cons (OpR_off (by exact wn2 rfl rfl rfl rfl) (by rfl) (by rfl) ?_)
      refine RL_cons (OpR_off (by exact wn2 rfl rfl rfl rfl) (by rfl) (by rfl) ?_)
      refine RL_cons (OpR_off (by exact wn2 rfl rfl rfl rfl) (by rfl) (by rfl) ?_)
      refine RL_cons (OpR_off (by exact wn2 rfl rfl rfl rfl) (by rfl) (by rfl) ?_)
      refine RL_pure (by exact wn0 rfl) (by rfl) (by rfl) (x_pick_f (v := .bool false) (by rfl) (by rfl)) ?_
      refine RL_nil ?_
      exact ⟨⟨congrArg Value.bool (Option.some.inj hm), rfl, rfl, trivial⟩, H⟩
    · have hm := cond_t hbS hmS
      refine RL_pure (by exact wn1 rfl rfl rfl rfl) (by rfl) (by rfl) (x_fieldAddr fo25_1 (by rfl)) ?_
      refine RL_pure (by exact wn1 rfl rfl rfl rfl) (by rfl) (by rfl) (x_load (j := 1) (v := .int .i64 a0.H) sc3 (by rfl) (H.cells (i := 0) (by rfl)) (by rfl)) ?_
      refine RL_pure (by exact wn1 rfl rfl rfl rfl) (by rfl) (by rfl) (x_fieldAddr fo25_1 (by rfl)) ?_
      refine RL_pure (by exact wn1 rfl rfl rfl rfl) (by rfl) (by rfl) (x_load (j := 1) (v := .int .i64 a1.H) sc3 (by rfl) (H.cells (i := 1) (by rfl)) (by rfl)) ?_
      refine RL_pure (by exact wn1 rfl rfl rfl rfl) (by rfl) (by rfl) (x_eql (by rfl) (by rfl)) ?_
      refine RL_pure (by exact wn0 rfl) (by rfl) (by rfl) (x_pick_t (v := .bool (a0.H == a1.H)) (by rfl) (by rfl)) ?_
      refine RL_nil ?_
      exact ⟨⟨congrArg Value.bool (Option.some.inj hm), rfl, rfl, trivial⟩, H⟩
  · rintro r' w' ⟨hA, H⟩
    obtain ⟨r38, rfl⟩ := regen _ hA; clear hA
    obtain ⟨w39, rfl⟩ : ∃ W : World, W = w' := ⟨_, rfl⟩
    show RL _ _ _ _ _ _ _
    refine RL_pure (by exact wn0 rfl) (by rfl) (by rfl) (x_move (v := .bool b37) (by rfl)) ?_
    obtain ⟨b40, hmS, hm⟩ := bind_some hm
    refine RL_cut 6 (fun r' w' => Agr [(23, .bool b40), (2, .pointer (some ⟨b33, 0, none⟩)), (3, .pointer (some ⟨b35, 0, none⟩))] r' ∧ Sep ok w w' [.blk b33 25 [.int .i64 a0.W, .int .i64 a0.H, .slice A1 a0.Color.length cp2, .slice A5 a0.Depth.length cp6, .slice A9 a0.Item.length cp10, .slice A13 a0.Tri.length cp14], .blk b35 25 [.int .i64 a1.W, .int .i64 a1.H, .slice A17 a1.Color.length cp18, .slice A21 a1.Depth.length cp22, .slice A25 a1.Item.length cp26, .slice A29 a1.Tri.length cp30]] [RE.rd k_Ar4_Int A1 cp2 a0.Color, RE.rd kInt A5 cp6 a0.Depth, RE.rd kInt A9 cp10 a0.Item, RE.rd kInt A13 cp14 a0.Tri, RE.rd k_Ar4_Int A17 cp18 a1.Color, RE.rd kInt A21 cp22 a1.Depth, RE.rd kInt A25 cp26 a1.Item, RE.rd kInt A29 cp30 a1.Tri]) ?_ ?_
    · cases hbS : b37
      · have hm := cond_f hbS hmS
        refine RL_cons (OpR_off (by exact wn2 rfl rfl rfl rfl) (by rfl) (by rfl) ?_)
        refine RL_cons (OpR_off (by exact wn2 rfl rfl rfl rfl) (by rfl) (by rfl) ?_)
        refine RL_cons (OpR_off (by exact wn2 rfl rfl rfl rfl) (by rfl) (by rfl) ?_)
        refine RL_cons (OpR_off (by exact wn2 rfl rfl rfl rfl) (by rfl) (by rfl) ?_)
        refine RL_cons (OpR_off (by exact wn2 rfl rfl rfl rfl) (by rfl) (by rfl) ?_)
        refine RL_pure (by exact wn0 rfl) (by rfl) (by rfl) (x_pick_f (v := .bool false) (by rfl) (by rfl)) ?_
        refine RL_nil ?_
        exact ⟨⟨congrArg Value.bool (Option.some.inj hm), rfl, rfl, trivial⟩, H⟩
      · have hm := cond_t hbS hmS
        refine RL_pure (by exact wn1 rfl rfl rfl rfl) (by rfl) (by rfl) (x_fieldAddr fo25_2 (by rfl)) ?_
        refine RL_pure (by exact wn1 rfl rfl rfl rfl) (by rfl) (by rfl) (x_load (j := 2) (v := .slice A1 a0.Color.length cp2) sc22 (by rfl) (H.cells (i := 0) (by rfl)) (by rfl)) ?_
        refine RL_pure (by exact wn1 rfl rfl rfl rfl) (by rfl) (by rfl) (x_fieldAddr fo25_2 (by rfl)) ?_
        refine RL_pure (by exact wn1 rfl rfl rfl rfl) (by rfl) (by rfl) (x_load (j := 2) (v := .slice A17 a1.Color.length cp18) sc22 (by rfl) (H.cells (i := 1) (by rfl)) (by rfl)) ?_
        obtain ⟨v42, hv41, hm⟩ := bind_some hm
        refine RL_cons (O_call (by exact wn1 rfl rfl rfl rfl) (by rfl) (by rfl) (x_callL (by rfl) (args := [.slice A1 a0.Color.length cp2, .slice A17 a1.Color.length cp18]) (by rfl) (cf77 _ _)) (c77 (fun _ => True) K w39 a0.Color A1 cp2 a1.Color A17 cp18 (H.rd (i := 0) (by rfl)).any (H.rd (i := 4) (by rfl)).any v42 hv41) ?_)
        rintro e w43 ⟨rfl, H2⟩
        have H : Sep ok w w43 [.blk b33 25 [.int .i64 a0.W, .int .i64 a0.H, .slice A1 a0.Color.length cp2, .slice A5 a0.Depth.length cp6, .slice A9 a0.Item.length cp10, .slice A13 a0.Tri.length cp14], .blk b35 25 [.int .i64 a1.W, .int .i64 a1.H, .slice A17 a1.Color.length cp18, .slice A21 a1.Depth.length cp22, .slice A25 a1.Item.length cp26, .slice A29 a1.Tri.length cp30]] [RE.rd k_Ar4_Int A1 cp2 a0.Color, RE.rd kInt A5 cp6 a0.Depth, RE.rd kInt A9 cp10 a0.Item, RE.rd kInt A13 cp14 a0.Tri, RE.rd k_Ar4_Int A17 cp18 a1.Color, RE.rd kInt A21 cp22 a1.Depth, RE.rd kInt A25 cp26 a1.Item, RE.rd kInt A29 cp30 a1.Tri] := H.below H2.base
        clear H2
        refine ⟨_, rfl, ?_⟩
        show RL _ _ _ _ _ _ _
        refine RL_pure (by exact wn0 rfl) (by rfl) (by rfl) (x_pick_t (v := .bool v42) (by rfl) (by rfl)) ?_
        refine RL_nil ?_
        exact ⟨⟨congrArg Value.bool (Option.some.inj hm), rfl, rfl, trivial⟩, H⟩
    · rintro r' w' ⟨hA, H⟩
      obtain ⟨r44, rfl⟩ := regen _ hA; clear hA
      obtain ⟨w45, rfl⟩ : ∃ W : World, W = w' := ⟨_, rfl⟩
      show RL _ _ _ _ _ _ _
      refine RL_pure (by exact wn0 rfl) (by rfl) (by rfl) (x_move (v := .bool b40) (by rfl)) ?_
      obtain ⟨b46, hmS, hm⟩ := bind_some hm
      refine RL_cut 6 (fun r' w' => Agr [(30, .bool b46), (2, .pointer (some ⟨b33, 0, none⟩)), (3, .pointer (some ⟨b35, 0, none⟩))] r' ∧ Sep ok w w' [.blk b33 25 [.int .i64 a0.W, .int .i64 a0.H, .slice A1 a0.Color.length cp2, .slice A5 a0.Depth.length cp6, .slice A9 a0.Item.length cp10, .slice A13 a0.Tri.length cp14], .blk b35 25 [.int .i64 a1.W, .int .i64 a1.H, .slice A17 a1.Color.length cp18, .slice A21 a1.Depth.length cp22, .slice A25 a1.Item.length cp26, .slice A29 a1.Tri.length cp30]] [RE.rd k_Ar4_Int A1 cp2 a0.Color, RE.rd kInt A5 cp6 a0.Depth, RE.rd kInt A9 cp10 a0.Item, RE.rd kInt A13 cp14 a0.Tri, RE.rd k_Ar4_Int A17 cp18 a1.Color, RE.rd kInt A21 cp22 a1.Depth, RE.rd kInt A25 cp26 a1.Item, RE.rd kInt A29 cp30 a1.Tri]) ?_ ?_
      · cases hbS : b40
        · have hm := cond_f hbS hmS
          refine RL_cons (OpR_off (by exact wn2 rfl rfl rfl rfl) (by rfl) (by rfl) ?_)
          refine RL_cons (OpR_off (by exact wn2 rfl rfl rfl rfl) (by rfl) (by rfl) ?_)
          refine RL_cons (OpR_off (by exact wn2 rfl rfl rfl rfl) (by rfl) (by rfl) ?_)
          refine RL_cons (OpR_off (by exact wn2 rfl rfl rfl rfl) (by rfl) (by rfl) ?_)
          refine RL_cons (OpR_off (by exact wn2 rfl rfl rfl rfl) (by rfl) (by rfl) ?_)
          refine RL_pure (by exact wn0 rfl) (by rfl) (by rfl) (x_pick_f (v := .bool false) (by rfl) (by rfl)) ?_
          refine RL_nil ?_
          exact ⟨⟨congrArg Value.bool (Option.some.inj hm), rfl, rfl, trivial⟩, H⟩
        · have hm := cond_t hbS hmS
          refine RL_pure (by exact wn1 rfl rfl rfl rfl) (by rfl) (by rfl) (x_fieldAddr fo25_3 (by rfl)) ?_
          refine RL_pure (by exact wn1 rfl rfl rfl rfl) (by rfl) (by rfl) (x_load (j := 3) (v := .slice A5 a0.Depth.length cp6) sc23 (by rfl) (H.cells (i := 0) (by rfl)) (by rfl)) ?_
          refine RL_pure (by exact wn1 rfl rfl rfl rfl) (by rfl) (by rfl) (x_fieldAddr fo25_3 (by rfl)) ?_
          refine RL_pure (by exact wn1 rfl rfl rfl rfl) (by rfl) (by rfl) (x_load (j := 3) (v := .slice A21 a1.Depth.length cp22) sc23 (by rfl) (H.cells (i := 1) (by rfl)) (by rfl)) ?_
          obtain ⟨v48, hv47, hm⟩ := bind_some hm
          refine RL_cons (O_call (by exact wn1 rfl rfl rfl rfl) (by rfl) (by rfl) (x_callL (by rfl) (args := [.slice A5 a0.Depth.length cp6, .slice A21 a1.Depth.length cp22]) (by rfl) (cf78 _ _)) (c78 (fun _ => True) K w45 a0.Depth A5 cp6 a1.Depth A21 cp22 (H.rd (i := 1) (by rfl)).any (H.rd (i := 5) (by rfl)).any v48 hv47) ?_)
          rintro e w49 ⟨rfl, H2⟩
          have H : Sep ok w w49 [.blk b33 25 [.int .i64 a0.W, .int .i64 a0.H, .slice A1 a0.Color.length cp2, .slice A5 a0.Depth.length cp6, .slice A9 a0.Item.length cp10, .slice A13 a0.Tri.length cp14], .blk b35 25 [.int .i64 a1.W, .int .i64 a1.H, .slice A17 a1.Color.length cp18, .slice A21 a1.Depth.length cp22, .slice A25 a1.Item.length cp26, .slice A29 a1.Tri.length cp30]] [RE.rd k_Ar4_Int A1 cp2 a0.Color, RE.rd kInt A5 cp6 a0.Depth, RE.rd kInt A9 cp10 a0.Item, RE.rd kInt A13 cp14 a0.Tri, RE.rd k_Ar4_Int A17 cp18 a1.Color, RE.rd kInt A21 cp22 a1.Depth, RE.rd kInt A25 cp26 a1.Item, RE.rd kInt A29 cp30 a1.Tri] := H.below H2.base
          clear H2
          refine ⟨_, rfl, ?_⟩
          show RL _ _ _ _ _ _ _
          refine RL_pure (by exact wn0 rfl) (by rfl) (by rfl) (x_pick_t (v := .bool v48) (by rfl) (by rfl)) ?_
          refine RL_nil ?_
          exact ⟨⟨congrArg Value.bool (Option.some.inj hm), rfl, rfl, trivial⟩, H⟩
      · rintro r' w' ⟨hA, H⟩
        obtain ⟨r50, rfl⟩ := regen _ hA; clear hA
        obtain ⟨w51, rfl⟩ : ∃ W : World, W = w' := ⟨_, rfl⟩
        show RL _ _ _ _ _ _ _
        refine RL_pure (by exact wn0 rfl) (by rfl) (by rfl) (x_move (v := .bool b46) (by rfl)) ?_
        obtain ⟨b52, hmS, hm⟩ := bind_some hm
        refine RL_cut 6 (fun r' w' => Agr [(37, .bool b52), (2, .pointer (some ⟨b33, 0, none⟩)), (3, .pointer (some ⟨b35, 0, none⟩))] r' ∧ Sep ok w w' [.blk b33 25 [.int .i64 a0.W, .int .i64 a0.H, .slice A1 a0.Color.length cp2, .slice A5 a0.Depth.length cp6, .slice A9 a0.Item.length cp10, .slice A13 a0.Tri.length cp14], .blk b35 25 [.int .i64 a1.W, .int .i64 a1.H, .slice A17 a1.Color.length cp18, .slice A21 a1.Depth.length cp22, .slice A25 a1.Item.length cp26, .slice A29 a1.Tri.length cp30]] [RE.rd k_Ar4_Int A1 cp2 a0.Color, RE.rd kInt A5 cp6 a0.Depth, RE.rd kInt A9 cp10 a0.Item, RE.rd kInt A13 cp14 a0.Tri, RE.rd k_Ar4_Int A17 cp18 a1.Color, RE.rd kInt A21 cp22 a1.Depth, RE.rd kInt A25 cp26 a1.Item, RE.rd kInt A29 cp30 a1.Tri]) ?_ ?_
        · cases hbS : b46
          · have hm := cond_f hbS hmS
            refine RL_cons (OpR_off (by exact wn2 rfl rfl rfl rfl) (by rfl) (by rfl) ?_)
            refine RL_cons (OpR_off (by exact wn2 rfl rfl rfl rfl) (by rfl) (by rfl) ?_)
            refine RL_cons (OpR_off (by exact wn2 rfl rfl rfl rfl) (by rfl) (by rfl) ?_)
            refine RL_cons (OpR_off (by exact wn2 rfl rfl rfl rfl) (by rfl) (by rfl) ?_)
            refine RL_cons (OpR_off (by exact wn2 rfl rfl rfl rfl) (by rfl) (by rfl) ?_)
            refine RL_pure (by exact wn0 rfl) (by rfl) (by rfl) (x_pick_f (v := .bool false) (by rfl) (by rfl)) ?_
            refine RL_nil ?_
            exact ⟨⟨congrArg Value.bool (Option.some.inj hm), rfl, rfl, trivial⟩, H⟩
          · have hm := cond_t hbS hmS
            refine RL_pure (by exact wn1 rfl rfl rfl rfl) (by rfl) (by rfl) (x_fieldAddr fo25_4 (by rfl)) ?_
            refine RL_pure (by exact wn1 rfl rfl rfl rfl) (by rfl) (by rfl) (x_load (j := 4) (v := .slice A9 a0.Item.length cp10) sc23 (by rfl) (H.cells (i := 0) (by rfl)) (by rfl)) ?_
            refine RL_pure (by exact wn1 rfl rfl rfl rfl) (by rfl) (by rfl) (x_fieldAddr fo25_4 (by rfl)) ?_
            refine RL_pure (by exact wn1 rfl rfl rfl rfl) (by rfl) (by rfl) (x_load (j := 4) (v := .slice A25 a1.Item.length cp26) sc23 (by rfl) (H.cells (i := 1) (by rfl)) (by rfl)) ?_
            obtain ⟨v54, hv53, hm⟩ := bind_some hm
            refine RL_cons (O_call (by exact wn1 rfl rfl rfl rfl) (by rfl) (by rfl) (x_callL (by rfl) (args := [.slice A9 a0.Item.length cp10, .slice A25 a1.Item.length cp26]) (by rfl) (cf78 _ _)) (c78 (fun _ => True) K w51 a0.Item A9 cp10 a1.Item A25 cp26 (H.rd (i := 2) (by rfl)).any (H.rd (i := 6) (by rfl)).any v54 hv53) ?_)
            rintro e w55 ⟨rfl, H2⟩
            have H : Sep ok w w55 [.blk b33 25 [.int .i64 a0.W, .int .i64 a0.H, .slice A1 a0.Color.length cp2, .slice A5 a0.Depth.length cp6, .slice A9 a0.Item.length cp10, .slice A13 a0.Tri.length cp14], .blk b35 25 [.int .i64 a1.W, .int .i64 a1.H, .slice A17 a1.Color.length cp18, .slice A21 a1.Depth.length cp22, .slice A25 a1.Item.length cp26, .slice A29 a1.Tri.length cp30]] [RE.rd k_Ar4_Int A1 cp2 a0.Color, RE.rd kInt A5 cp6 a0.Depth, RE.rd kInt A9 cp10 a0.Item, RE.rd kInt A13 cp14 a0.Tri, RE.rd k_Ar4_Int A17 cp18 a1.Color, RE.rd kInt A21 cp22 a1.Depth, RE.rd kInt A25 cp26 a1.Item, RE.rd kInt A29 cp30 a1.Tri] := H.below H2.base
            clear H2
            refine ⟨_, rfl, ?_⟩
            show RL _ _ _ _ _ _ _
            refine RL_pure (by exact wn0 rfl) (by rfl) (by rfl) (x_pick_t (v := .bool v54) (by rfl) (by rfl)) ?_
            refine RL_nil ?_
            exact ⟨⟨congrArg Value.bool (Option.some.inj hm), rfl, rfl, trivial⟩, H⟩
        · rintro r' w' ⟨hA, H⟩
          obtain ⟨r56, rfl⟩ := regen _ hA; clear hA
          obtain ⟨w57, rfl⟩ : ∃ W : World, W = w' := ⟨_, rfl⟩
          show RL _ _ _ _ _ _ _
          refine RL_pure (by exact wn0 rfl) (by rfl) (by rfl) (x_move (v := .bool b52) (by rfl)) ?_
          obtain ⟨b58, hmS, hm⟩ := bind_some hm
          refine RL_cut 6 (fun r' w' => Agr [(44, .bool b58)] r' ∧ Sep ok w w' [.blk b33 25 [.int .i64 a0.W, .int .i64 a0.H, .slice A1 a0.Color.length cp2, .slice A5 a0.Depth.length cp6, .slice A9 a0.Item.length cp10, .slice A13 a0.Tri.length cp14], .blk b35 25 [.int .i64 a1.W, .int .i64 a1.H, .slice A17 a1.Color.length cp18, .slice A21 a1.Depth.length cp22, .slice A25 a1.Item.length cp26, .slice A29 a1.Tri.length cp30]] [RE.rd k_Ar4_Int A1 cp2 a0.Color, RE.rd kInt A5 cp6 a0.Depth, RE.rd kInt A9 cp10 a0.Item, RE.rd kInt A13 cp14 a0.Tri, RE.rd k_Ar4_Int A17 cp18 a1.Color, RE.rd kInt A21 cp22 a1.Depth, RE.rd kInt A25 cp26 a1.Item, RE.rd kInt A29 cp30 a1.Tri]) ?_ ?_
          · cases hbS : b52
            · have hm := cond_f hbS hmS
              refine RL_cons (OpR_off (by exact wn2 rfl rfl rfl rfl) (by rfl) (by rfl) ?_)
              refine RL_cons (OpR_off (by exact wn2 rfl rfl rfl rfl) (by rfl) (by rfl) ?_)
              refine RL_cons (OpR_off (by exact wn2 rfl rfl rfl rfl) (by rfl) (by rfl) ?_)
              refine RL_cons (OpR_off (by exact wn2 rfl rfl rfl rfl) (by rfl) (by rfl) ?_)
              refine RL_cons (OpR_off (by exact wn2 rfl rfl rfl rfl) (by rfl) (by rfl) ?_)
              refine RL_pure (by exact wn0 rfl) (by rfl) (by rfl) (x_pick_f (v := .bool false) (by rfl) (by rfl)) ?_
              refine RL_nil ?_
              exact ⟨⟨congrArg Value.bool (Option.some.inj hm), trivial⟩, H⟩
            · have hm := cond_t hbS hmS
              refine RL_pure (by exact wn1 rfl rfl rfl rfl) (by rfl) (by rfl) (x_fieldAddr fo25_5 (by rfl)) ?_
              refine RL_pure (by exact wn1 rfl rfl rfl rfl) (by rfl) (by rfl) (x_load (j := 5) (v := .slice A13 a0.Tri.length cp14) sc23 (by rfl) (H.cells (i := 0) (by rfl)) (by rfl)) ?_
              refine RL_pure (by exact wn1 rfl rfl rfl rfl) (by rfl) (by rfl) (x_fieldAddr fo25_5 (by rfl)) ?_
              refine RL_pure (by exact wn1 rfl rfl rfl rfl) (by rfl) (by rfl) (x_load (j := 5) (v := .slice A29 a1.Tri.length cp30) sc23 (by rfl) (H.cells (i := 1) (by rfl)) (by rfl)) ?_
              obtain ⟨v60, hv59, hm⟩ := bind_some hm
              refine RL_cons (O_call (by exact wn1 rfl rfl rfl rfl) (by rfl) (by rfl) (x_callL (by rfl) (args := [.slice A13 a0.Tri.length cp14, .slice A29 a1.Tri.length cp30]) (by rfl) (cf78 _ _)) (c78 (fun _ => True) K w57 a0.Tri A13 cp14 a1.Tri A29 cp30 (H.rd (i := 3) (by rfl)).any (H.rd (i := 7) (by rfl)).any v60 hv59) ?_)
              rintro e w61 ⟨rfl, H2⟩
              have H : Sep ok w w61 [.blk b33 25 [.int .i64 a0.W, .int .i64 a0.H, .slice A1 a0.Color.length cp2, .slice A5 a0.Depth.length cp6, .slice A9 a0.Item.length cp10, .slice A13 a0.Tri.length cp14], .blk b35 25 [.int .i64 a1.W, .int .i64 a1.H, .slice A17 a1.Color.length cp18, .slice A21 a1.Depth.length cp22, .slice A25 a1.Item.length cp26, .slice A29 a1.Tri.length cp30]] [RE.rd k_Ar4_Int A1 cp2 a0.Color, RE.rd kInt A5 cp6 a0.Depth, RE.rd kInt A9 cp10 a0.Item, RE.rd kInt A13 cp14 a0.Tri, RE.rd k_Ar4_Int A17 cp18 a1.Color, RE.rd kInt A21 cp22 a1.Depth, RE.rd kInt A25 cp26 a1.Item, RE.rd kInt A29 cp30 a1.Tri] := H.below H2.base
              clear H2
              refine ⟨_, rfl, ?_⟩
              show RL _ _ _ _ _ _ _
              refine RL_pure (by exact wn0 rfl) (by rfl) (by rfl) (x_pick_t (v := .bool v60) (by rfl) (by rfl)) ?_
              refine RL_nil ?_
              exact ⟨⟨congrArg Value.bool (Option.some.inj hm), trivial⟩, H⟩
          · rintro r' w' ⟨hA, H⟩
            obtain ⟨r62, rfl⟩ := regen _ hA; clear hA
            obtain ⟨w63, rfl⟩ : ∃ W : World, W = w' := ⟨_, rfl⟩
            show RL _ _ _ _ _ _ _
            refine RL_pure (by exact wn0 rfl) (by rfl) (by rfl) (x_assign (v := .bool b58) (by rfl)) ?_
            refine RL_nil ?_
            refine W_ret ?_
            obtain rfl := Option.some.inj hm
            exact ⟨[.bool b58], (.tmp (by rfl) rfl), rfl, H.none_⟩
end Go.Proofs.YtobkigllalbkiaaV.M
