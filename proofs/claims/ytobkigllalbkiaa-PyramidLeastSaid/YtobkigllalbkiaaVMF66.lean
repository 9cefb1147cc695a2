/- A plain Lean function that answers as the Go function does (none: not told), and the proof that a call answers so. Written by program. -/
import Derived.Test.YtobkigllalbkiaaVMTy
import Derived.Test.YtobkigllalbkiaaVMF78
set_option linter.unusedVariables false
namespace Go.Proofs.YtobkigllalbkiaaV.M
open Go.RowKit Go.Proofs.YtobkigllalbkiaaV
/-- diorama/pyramid.same -/
def m66 (K : Nat) (a0 : S_Level) (a1 : S_Level) : Option (Bool) :=
  ((bif (a0.W == a1.W) then some (a0.H == a1.H) else some false).bind fun b13 => ((bif b13 then ((m78 K a0.Low a1.Low).bind fun v18 => some v18) else some false).bind fun b16 => some b16))
set_option maxRecDepth 100000 in
set_option maxHeartbeats 4000000 in
theorem c66 (ok : Nat → Prop) (K : Nat) (w : World) (a0 : S_Level) (A1 : Option Addr) (cp2 : Nat) (a1 : S_Level) (A5 : Option Addr) (cp6 : Nat) (hR3 : Rd kInt w ok A1 cp2 a0.Low) (hR7 : Rd kInt w ok A5 cp6 a1.Low) (res : Bool) (hm : m66 K a0 a1 = some res) :
    Calls Try.prog 66 #[.agg #[.int .i64 a0.W, .int .i64 a0.H, .slice A1 a0.Low.length cp2], .agg #[.int .i64 a1.W, .int .i64 a1.H, .slice A5 a1.Low.length cp6]] w (fun e w' => e = .returned (tup [.bool res]) ∧ Sep ok w w' [] []) := by
  refine calls_W (args := [.agg #[.int .i64 a0.W, .int .i64 a0.H, .slice A1 a0.Low.length cp2], .agg #[.int .i64 a1.W, .int .i64 a1.H, .slice A5 a1.Low.length cp6]]) Try.func66 rfl Try.ntmps66 Try.results66 rfl fun r hr => ?_
  obtain ⟨r1, rfl⟩ := regen (r := r) [(0, .agg #[.int .i64 a0.W, .int .i64 a0.H, .slice A1 a0.Low.length cp2]), (1, .agg #[.int .i64 a1.W, .int .i64 a1.H, .slice A5 a1.Low.length cp6])] ⟨hr 0 _ rfl, hr 1 _ rfl, trivial⟩
  have H : Sep ok w w [] [RE.rd kInt A1 cp2 a0.Low, RE.rd kInt A5 cp6 a1.Low] := Sep.arg (Sep.arg (Sep.start ok w) (re := RE.rd kInt A1 cp2 a0.Low) rfl rfl hR3) (re := RE.rd kInt A5 cp6 a1.Low) rfl rfl hR7
  unfold m66 at hm
  refine W_seq ?_
  refine W_region ?_
  refine RL_cons (O_box (by exact wn0 rfl) (by rfl) (by rfl) (by rfl) H (fun w10 b9 (H : Sep ok w w10 [.blk b9 54 [.int .i64 a0.W, .int .i64 a0.H, .slice A1 a0.Low.length cp2]] [RE.rd kInt A1 cp2 a0.Low, RE.rd kInt A5 cp6 a1.Low]) => ?_))
  refine RL_cons (O_box (by exact wn0 rfl) (by rfl) (by rfl) (by rfl) H (fun w12 b11 (H : Sep ok w w12 [.blk b9 54 [.int .i64 a0.W, .int .i64 a0.H, .slice A1 a0.Low.length cp2], .blk b11 54 [.int .i64 a1.W, .int .i64 a1.H, .slice A5 a1.Low.length cp6]] [RE.rd kInt A1 cp2 a0.Low, RE.rd kInt A5 cp6 a1.Low]) => ?_))
  refine RL_pure (by exact wn0 rfl) (by rfl) (by rfl) (x_assign (v := .bool false) (by rfl)) ?_
  refine RL_nil ?_
  refine W_seq ?_
  refine W_region ?_
  refine RL_pure (by exact wn0 rfl) (by rfl) (by rfl) (x_fieldAddr fo54_0 (by rfl)) ?_
  refine RL_pure (by exact wn0 rfl) (by rfl) (by rfl) (x_load (j := 0) (v := .int .i64 a0.W) sc3 (by rfl) (H.cells (i := 0) (by rfl)) (by rfl)) ?_
  refine RL_pure (by exact wn0 rfl) (by rfl) (by rfl) (x_fieldAddr fo54_0 (by rfl)) ?_
  refine RL_pure (by exact wn0 rfl) (by rfl) (by rfl) (x_load (j := 0) (v := .int .i64 a1.W) sc3 (by rfl) (H.cells (i := 1) (by rfl)) (by rfl)) ?_
  refine RL_pure (by exact wn0 rfl) (by rfl) (by rfl) (x_eql (by rfl) (by rfl)) ?_
  refine RL_pure (by exact wn0 rfl) (by rfl) (by rfl) (x_move (v := .bool (a0.W == a1.W)) (by rfl)) ?_
  obtain ⟨b13, hmS, hm⟩ := bind_some hm
  refine RL_cut 6 (fun r' w' => Agr [(16, .bool b13), (2, .pointer (some ⟨b9, 0, none⟩)), (3, .pointer (some ⟨b11, 0, none⟩))] r' ∧ Sep ok w w' [.blk b9 54 [.int .i64 a0.W, .int .i64 a0.H, .slice A1 a0.Low.length cp2], .blk b11 54 [.int .i64 a1.W, .int .i64 a1.H, .slice A5 a1.Low.length cp6]] [RE.rd kInt A1 cp2 a0.Low, RE.rd kInt A5 cp6 a1.Low]) ?_ ?_
  · cases hbS : (a0.W == a1.W)
    · have hm := cond_f hbS hmS
      refine RL_cons (OpR_off (by exact wn2 rfl rfl rfl rfl) (by rfl) (by rfl) ?_)
      refine RL_cons (OpR_off (by exact wn2 rfl rfl rfl rfl) (by rfl) (by rfl) ?_)
      refine RL_cons (OpR_off (by exact wn2 rfl rfl rfl rfl) (by rfl) (by rfl) ?_)
      refine RL_cons (OpR_off (by exact wn2 rfl rfl rfl rfl) (by rfl) (by rfl) ?_)
      refine RL_cons (OpR_off (by exact wn2 rfl rfl rfl rfl) (by rfl) (by rfl) ?_)
      refine RL_pure (by exact wn0 rfl) (by rfl) (by rfl) (x_pick_f (v := .bool false) (by rfl) (by rfl)) ?_
      refine RL_nil ?_
      exact ⟨⟨congrArg Value.bool (Option.some.inj hm), rfl, rfl, trivial⟩, H⟩
    · have hm := cond_t hbS hmS
      refine RL_pure (by exact wn1 rfl rfl rfl rfl) (by rfl) (by rfl) (x_fieldAddr fo54_1 (by rfl)) ?_
      refine RL_pure (by exact wn1 rfl rfl rfl rfl) (by rfl) (by rfl) (x_load (j := 1) (v := .int .i64 a0.H) sc3 (by rfl) (H.cells (i := 0) (by rfl)) (by rfl)) ?_
      refine RL_pure (by exact wn1 rfl rfl rfl rfl) (by rfl) (by rfl) (x_fieldAddr fo54_1 (by rfl)) ?_
      refine RL_pure (by exact wn1 rfl rfl rfl rfl) (by rfl) (by rfl) (x_load (j := 1) (v := .int .i64 a1.H) sc3 (by rfl) (H.cells (i := 1) (by rfl)) (by rfl)) ?_
      refine RL_pure (by exact wn1 rfl rfl rfl rfl) (by rfl) (by rfl) (x_eql (by rfl) (by rfl)) ?_
      refine RL_pure (by exact wn0 rfl) (by rfl) (by rfl) (x_pick_t (v := .bool (a0.H == a1.H)) (by rfl) (by rfl)) ?_
      refine RL_nil ?_
      exact ⟨⟨congrArg Value.bool (Option.some.inj hm), rfl, rfl, trivial⟩, H⟩
  · rintro r' w' ⟨hA, H⟩
    obtain ⟨r14, rfl⟩ := regen _ hA; clear hA
    obtain ⟨w15, rfl⟩ : ∃ W : World, W = w' := ⟨_, rfl⟩
    show RL _ _ _ _ _ _ _
    refine RL_pure (by exact wn0 rfl) (by rfl) (by rfl) (x_move (v := .bool b13) (by rfl)) ?_
    obtain ⟨b16, hmS, hm⟩ := bind_some hm
    refine RL_cut 6 (fun r' w' => Agr [(23, .bool b16)] r' ∧ Sep ok w w' [.blk b9 54 [.int .i64 a0.W, .int .i64 a0.H, .slice A1 a0.Low.length cp2], .blk b11 54 [.int .i64 a1.W, .int .i64 a1.H, .slice A5 a1.Low.length cp6]] [RE.rd kInt A1 cp2 a0.Low, RE.rd kInt A5 cp6 a1.Low]) ?_ ?_
    · cases hbS : b13
      · have hm := cond_f hbS hmS
        refine RL_cons (OpR_off (by exact wn2 rfl rfl rfl rfl) (by rfl) (by rfl) ?_)
        refine RL_cons (OpR_off (by exact wn2 rfl rfl rfl rfl) (by rfl) (by rfl) ?_)
        refine RL_cons (OpR_off (by exact wn2 rfl rfl rfl rfl) (by rfl) (by rfl) ?_)
        refine RL_cons (OpR_off (by exact wn2 rfl rfl rfl rfl) (by rfl) (by rfl) ?_)
        refine RL_cons (OpR_off (by exact wn2 rfl rfl rfl rfl) (by rfl) (by rfl) ?_)
        refine RL_pure (by exact wn0 rfl) (by rfl) (by rfl) (x_pick_f (v := .bool false) (by rfl) (by rfl)) ?_
        refine RL_nil ?_
        exact ⟨⟨congrArg Value.bool (Option.some.inj hm), trivial⟩, H⟩
      · have hm := cond_t hbS hmS
        refine RL_pure (by exact wn1 rfl rfl rfl rfl) (by rfl) (by rfl) (x_fieldAddr fo54_2 (by rfl)) ?_
        refine RL_pure (by exact wn1 rfl rfl rfl rfl) (by rfl) (by rfl) (x_load (j := 2) (v := .slice A1 a0.Low.length cp2) sc23 (by rfl) (H.cells (i := 0) (by rfl)) (by rfl)) ?_
        refine RL_pure (by exact wn1 rfl rfl rfl rfl) (by rfl) (by rfl) (x_fieldAddr fo54_2 (by rfl)) ?_
        refine RL_pure (by exact wn1 rfl rfl rfl rfl) (by rfl) (by rfl) (x_load (j := 2) (v := .slice A5 a1.Low.length cp6) sc23 (by rfl) (H.cells (i := 1) (by rfl)) (by rfl)) ?_
        obtain ⟨v18, hv17, hm⟩ := bind_some hm
        refine RL_cons (O_call (by exact wn1 rfl rfl rfl rfl) (by rfl) (by rfl) (x_callL (by rfl) (args := [.slice A1 a0.Low.length cp2, .slice A5 a1.Low.length cp6]) (by rfl) (cf78 _ _)) (c78 (fun _ => True) K w15 a0.Low A1 cp2 a1.Low A5 cp6 (H.rd (i := 0) (by rfl)).any (H.rd (i := 1) (by rfl)).any v18 hv17) ?_)
        rintro e w19 ⟨rfl, H2⟩
        have H : Sep ok w w19 [.blk b9 54 [.int .i64 a0.W, .int .i64 a0.H, .slice A1 a0.Low.length cp2], .blk b11 54 [.int .i64 a1.W, .int .i64 a1.H, .slice A5 a1.Low.length cp6]] [RE.rd kInt A1 cp2 a0.Low, RE.rd kInt A5 cp6 a1.Low] := H.below H2.base
        clear H2
        refine ⟨_, rfl, ?_⟩
        show RL _ _ _ _ _ _ _
        refine RL_pure (by exact wn0 rfl) (by rfl) (by rfl) (x_pick_t (v := .bool v18) (by rfl) (by rfl)) ?_
        refine RL_nil ?_
        exact ⟨⟨congrArg Value.bool (Option.some.inj hm), trivial⟩, H⟩
    · rintro r' w' ⟨hA, H⟩
      obtain ⟨r20, rfl⟩ := regen _ hA; clear hA
      obtain ⟨w21, rfl⟩ : ∃ W : World, W = w' := ⟨_, rfl⟩
      show RL _ _ _ _ _ _ _
      refine RL_pure (by exact wn0 rfl) (by rfl) (by rfl) (x_assign (v := .bool b16) (by rfl)) ?_
      refine RL_nil ?_
      refine W_ret ?_
      obtain rfl := Option.some.inj hm
      exact ⟨[.bool b16], (.tmp (by rfl) rfl), rfl, H.none_⟩
end Go.Proofs.YtobkigllalbkiaaV.M
