/- A plain Lean function that answers as the Go function does (none: not told), and the proof that a call answers so. Written by program. -/
import Derived.Test.YtobkigllalbkiaaVMTy
import Derived.Test.YtobkigllalbkiaaVMF59
import Derived.Test.YtobkigllalbkiaaVMF73
import Derived.Test.YtobkigllalbkiaaVMF74
set_option linter.unusedVariables false
namespace Go.Proofs.YtobkigllalbkiaaV.M
open Go.RowKit Go.Proofs.YtobkigllalbkiaaV
/-- diorama/frame.New -/
def m28 (K : Nat) (a0 : Int) (a1 : Int) (a2 : (Ar4 Int)) : Option (S_Frame × Int) :=
  ((bif (decide ((mn a0 a1) < 1)) then some true else some (decide (64 < (mx a0 a1)))).bind fun b5 => (bif b5 then some ((⟨0, 0, [], [], [], []⟩ : S_Frame), 2) else (ck (a0 * a1) fun x17 => ((m73 K ([(-1)]) x17).bind fun v19 => (ck (a0 * a1) fun x28 => ((m74 K ([a2]) x28).bind fun v30 => (ck (a0 * a1) fun x39 => ((m73 K ([(-2048)]) x39).bind fun v41 => ((m59 K v19).bind fun v47 => some ((⟨a0, a1, v30, v41, v19, v47⟩ : S_Frame), 0))))))))))
set_option maxRecDepth 100000 in
set_option maxHeartbeats 4000000 in
theorem c28 (ok : Nat → Prop) (K : Nat) (w : World) (a0 : Int) (a1 : Int) (a2 : (Ar4 Int))  (res : S_Frame × Int) (hm : m28 K a0 a1 a2 = some res) :
    Calls Try.prog 28 #[.int .i64 a0, .int .i64 a1, .agg #[.int .u8 a2.a0, .int .u8 a2.a1, .int .u8 a2.a2, .int .u8 a2.a3]] w (fun e w' => ∃ (A0_ : Option Addr) (c0_ : Nat), ∃ (A1_ : Option Addr) (c1_ : Nat), ∃ (A2_ : Option Addr) (c2_ : Nat), ∃ (A3_ : Option Addr) (c3_ : Nat), e = .returned (tup [.agg #[.int .i64 res.1.W, .int .i64 res.1.H, .slice A0_ res.1.Color.length c0_, .slice A1_ res.1.Depth.length c1_, .slice A2_ res.1.Item.length c2_, .slice A3_ res.1.Tri.length c3_], .int .i64 res.2]) ∧ Sep ok w w' [] [RE.rd k_Ar4_Int A0_ c0_ res.1.Color, RE.rd kInt A1_ c1_ res.1.Depth, RE.rd kInt A2_ c2_ res.1.Item, RE.rd kInt A3_ c3_ res.1.Tri]) := by
  refine calls_W (args := [.int .i64 a0, .int .i64 a1, .agg #[.int .u8 a2.a0, .int .u8 a2.a1, .int .u8 a2.a2, .int .u8 a2.a3]]) Try.func28 rfl Try.ntmps28 Try.results28 rfl fun r hr => ?_
  obtain ⟨r1, rfl⟩ := regen (r := r) [(0, .int .i64 a0), (1, .int .i64 a1), (2, .agg #[.int .u8 a2.a0, .int .u8 a2.a1, .int .u8 a2.a2, .int .u8 a2.a3])] ⟨hr 0 _ rfl, hr 1 _ rfl, hr 2 _ rfl, trivial⟩
  have H : Sep ok w w [] [] := Sep.start ok w
  unfold m28 at hm
  refine W_seq ?_
  refine W_region ?_
  refine RL_cons (O_box (by exact wn0 rfl) (by rfl) (by rfl) (by rfl) H (fun w2 b1 (H : Sep ok w w2 [.blk b1 61 [.int .u8 a2.a0, .int .u8 a2.a1, .int .u8 a2.a2, .int .u8 a2.a3]] []) => ?_))
  refine RL_cons (O_alloc (by exact wn0 rfl) (by rfl) ze25 (by rfl) H (fun w4 b3 (H : Sep ok w w4 [.blk b1 61 [.int .u8 a2.a0, .int .u8 a2.a1, .int .u8 a2.a2, .int .u8 a2.a3], .blk b3 25 [.int .i64 0, .int .i64 0, .slice none 0 0, .slice none 0 0, .slice none 0 0, .slice none 0 0]] []) => ?_))
  refine RL_pure (by exact wn0 rfl) (by rfl) (by rfl) (x_assign (v := .int .i64 0) (by rfl)) ?_
  refine RL_nil ?_
  refine W_seq ?_
  refine W_seq ?_
  refine W_region ?_
  refine RL_pure (by exact wn0 rfl) (by rfl) (by rfl) (x_move (v := .int .i64 a0) (by rfl)) ?_
  refine RL_pure (by exact wn0 rfl) (by rfl) (by rfl) (x_move (v := .int .i64 a1) (by rfl)) ?_
  refine RL_pure (by exact wn0 rfl) (by rfl) (by rfl) (x_min2 (by rfl) (by rfl)) ?_
  refine RL_pure (by exact wn0 rfl) (by rfl) (by rfl) (x_lss (by rfl) (by rfl)) ?_
  refine RL_pure (by exact wn0 rfl) (by rfl) (by rfl) (x_move (v := .bool (decide ((mn a0 a1) < 1))) (by rfl)) ?_
  obtain ⟨b5, hmS, hm⟩ := bind_some hm
  refine RL_cut 5 (fun r' w' => Agr [(18, .bool b5), (0, .int .i64 a0), (1, .int .i64 a1), (5, .pointer (some ⟨b1, 0, none⟩)), (6, .pointer (some ⟨b3, 0, none⟩))] r' ∧ Sep ok w w' [.blk b1 61 [.int .u8 a2.a0, .int .u8 a2.a1, .int .u8 a2.a2, .int .u8 a2.a3], .blk b3 25 [.int .i64 0, .int .i64 0, .slice none 0 0, .slice none 0 0, .slice none 0 0, .slice none 0 0]] []) ?_ ?_
  · cases hbS : (decide ((mn a0 a1) < 1))
    · have hm := cond_f hbS hmS
      refine RL_pure (by exact wn1 rfl rfl rfl rfl) (by rfl) (by rfl) (x_move (v := .int .i64 a0) (by rfl)) ?_
      refine RL_pure (by exact wn1 rfl rfl rfl rfl) (by rfl) (by rfl) (x_move (v := .int .i64 a1) (by rfl)) ?_
      refine RL_pure (by exact wn1 rfl rfl rfl rfl) (by rfl) (by rfl) (x_max2 (by rfl) (by rfl)) ?_
      refine RL_pure (by exact wn1 rfl rfl rfl rfl) (by rfl) (by rfl) (x_gtr (by rfl) (by rfl)) ?_
      refine RL_pure (by exact wn0 rfl) (by rfl) (by rfl) (x_pick_f (v := .bool (decide (64 < (mx a0 a1)))) (by rfl) (by rfl)) ?_
      refine RL_nil ?_
      exact ⟨⟨congrArg Value.bool (Option.some.inj hm), rfl, rfl, rfl, rfl, trivial⟩, H⟩
    · have hm := cond_t hbS hmS
      refine RL_cons (OpR_off (by exact wn2 rfl rfl rfl rfl) (by rfl) (by rfl) ?_)
      refine RL_cons (OpR_off (by exact wn2 rfl rfl rfl rfl) (by rfl) (by rfl) ?_)
      refine RL_cons (OpR_off (by exact wn2 rfl rfl rfl rfl) (by rfl) (by rfl) ?_)
      refine RL_cons (OpR_off (by exact wn2 rfl rfl rfl rfl) (by rfl) (by rfl) ?_)
      refine RL_pure (by exact wn0 rfl) (by rfl) (by rfl) (x_pick_t (v := .bool true) (by rfl) (by rfl)) ?_
      refine RL_nil ?_
      exact ⟨⟨congrArg Value.bool (Option.some.inj hm), rfl, rfl, rfl, rfl, trivial⟩, H⟩
  · rintro r' w' ⟨hA, H⟩
    obtain ⟨r6, rfl⟩ := regen _ hA; clear hA
    obtain ⟨w7, rfl⟩ : ∃ W : World, W = w' := ⟨_, rfl⟩
    show RL _ _ _ _ _ _ _
    refine RL_nil ?_
    refine W_cond (by rfl) (fun hb => ?_) (fun hb => ?_)
    · have hm := cond_t hb hm
      refine W_seq ?_
      refine W_region ?_
      refine RL_pure (by exact wn0 rfl) (by rfl) (by rfl) (x_build (vs := []) (cs := [.int .i64 0, .int .i64 0, .slice none 0 0, .slice none 0 0, .slice none 0 0, .slice none 0 0]) (by rfl) (by kernel_rfl)) ?_
      refine RL_cons (O_store (i := 1) (off := 0) (by exact wn0 rfl) (by rfl) (by rfl) H (by rfl) (vs := [.int .i64 0, .int .i64 0, .slice none 0 0, .slice none 0 0, .slice none 0 0, .slice none 0 0]) (by rfl) sz25 (by rfl) (by rfl) (by rfl) (fun w8 (H : Sep ok w w8 [.blk b1 61 [.int .u8 a2.a0, .int .u8 a2.a1, .int .u8 a2.a2, .int .u8 a2.a3], .blk b3 25 [.int .i64 0, .int .i64 0, .slice none 0 0, .slice none 0 0, .slice none 0 0, .slice none 0 0]] []) => ?_))
      refine RL_pure (by exact wn0 rfl) (by rfl) (by rfl) (x_assign (v := .int .i64 2) (by rfl)) ?_
      refine RL_nil ?_
      refine W_ret ?_
      have H : Sep ok w w8 [.blk b1 61 [.int .u8 a2.a0, .int .u8 a2.a1, .int .u8 a2.a2, .int .u8 a2.a3], .blk b3 25 [.int .i64 0, .int .i64 0, .slice none 0 0, .slice none 0 0, .slice none 0 0, .slice none 0 0]] [RE.rd k_Ar4_Int none 0 ([])] := Sep.also H (re := RE.rd k_Ar4_Int none 0 ([])) (Rd.nil (by decide))
      have H : Sep ok w w8 [.blk b1 61 [.int .u8 a2.a0, .int .u8 a2.a1, .int .u8 a2.a2, .int .u8 a2.a3], .blk b3 25 [.int .i64 0, .int .i64 0, .slice none 0 0, .slice none 0 0, .slice none 0 0, .slice none 0 0]] [RE.rd k_Ar4_Int none 0 ([]), RE.rd kInt none 0 ([])] := Sep.also H (re := RE.rd kInt none 0 ([])) (Rd.nil (by decide))
      have H : Sep ok w w8 [.blk b1 61 [.int .u8 a2.a0, .int .u8 a2.a1, .int .u8 a2.a2, .int .u8 a2.a3], .blk b3 25 [.int .i64 0, .int .i64 0, .slice none 0 0, .slice none 0 0, .slice none 0 0, .slice none 0 0]] [RE.rd k_Ar4_Int none 0 ([]), RE.rd kInt none 0 ([]), RE.rd kInt none 0 ([])] := Sep.also H (re := RE.rd kInt none 0 ([])) (Rd.nil (by decide))
      have H : Sep ok w w8 [.blk b1 61 [.int .u8 a2.a0, .int .u8 a2.a1, .int .u8 a2.a2, .int .u8 a2.a3], .blk b3 25 [.int .i64 0, .int .i64 0, .slice none 0 0, .slice none 0 0, .slice none 0 0, .slice none 0 0]] [RE.rd k_Ar4_Int none 0 ([]), RE.rd kInt none 0 ([]), RE.rd kInt none 0 ([]), RE.rd kInt none 0 ([])] := Sep.also H (re := RE.rd kInt none 0 ([])) (Rd.nil (by decide))
      obtain rfl := Option.some.inj hm
      exact ⟨[.agg #[.int .i64 0, .int .i64 0, .slice none 0 0, .slice none 0 0, .slice none 0 0, .slice none 0 0], .int .i64 2], (.cellA (by rfl) ag25 (H.cells (i := 1) (by rfl)) (by rfl) (.tmp (by rfl) rfl)), none, 0, none, 0, none, 0, none, 0, rfl, (H.forgetAll).pick [0, 1, 2, 3]⟩
    · have hm := cond_f hb hm
      refine W_skip ?_
      refine W_seq ?_
      refine W_region ?_
      refine RL_cons (O_buildSlice (vs := [(0, .int .i64 (-1))]) (cs := [.int .i64 (-1)]) (by exact wn0 rfl) (by rfl) sl23 sz3 ze3 (by rfl) (by rfl) (by rfl) (by kernel_rfl) H (fun w14 b13 (H : Sep ok w w14 [.blk b1 61 [.int .u8 a2.a0, .int .u8 a2.a1, .int .u8 a2.a2, .int .u8 a2.a3], .blk b3 25 [.int .i64 0, .int .i64 0, .slice none 0 0, .slice none 0 0, .slice none 0 0, .slice none 0 0], .blk b13 3 [.int .i64 (-1)]] []) => ?_))
      have H : Sep ok w w14 [.blk b1 61 [.int .u8 a2.a0, .int .u8 a2.a1, .int .u8 a2.a2, .int .u8 a2.a3], .blk b3 25 [.int .i64 0, .int .i64 0, .slice none 0 0, .slice none 0 0, .slice none 0 0, .slice none 0 0], .row (.slice (some ⟨b13, 0, none⟩) ([(-1)]).length 1) 3 kInt.sz ([(-1)]).length [.int .i64 (-1)]] [RE.chunks kInt [.int .i64 (-1)] ([(-1)])] := H.rowOf (i := 2) (D := kInt) (xs := [(-1)]) (by rfl) (by exact ⟨rfl, rfl⟩) (by rfl)
      refine RL_pure (by exact wn0 rfl) (by rfl) (by rfl) (x_move (v := .int .i64 a0) (by rfl)) ?_
      refine RL_pure (by exact wn0 rfl) (by rfl) (by rfl) (x_move (v := .int .i64 a1) (by rfl)) ?_
      obtain ⟨x17, ex17, qx17, ux17, hm⟩ := ck_some hm
      refine RL_pure (by exact wn0 rfl) (by rfl) (by rfl) (x_mul (by rfl) (by rfl) ux17) ?_
      obtain ⟨v19, hv18, hm⟩ := bind_some hm
      have H : Sep ok w w14 [.blk b1 61 [.int .u8 a2.a0, .int .u8 a2.a1, .int .u8 a2.a2, .int .u8 a2.a3], .blk b3 25 [.int .i64 0, .int .i64 0, .slice none 0 0, .slice none 0 0, .slice none 0 0, .slice none 0 0], .hole] [RE.rd kInt (some ⟨b13, 0, none⟩) 1 ([(-1)])] := H.frozen (i := 2) (j := 0) (by rfl) (by rfl)
      refine RL_cons (O_call (by exact wn0 rfl) (by rfl) (by rfl) (x_callL (by rfl) (args := [.slice (some ⟨b13, 0, none⟩) ([(-1)]).length 1, .int .i64 x17]) (by rfl) (cf73 _ _)) (c73 (okS ok w [.blk b1 61 [.int .u8 a2.a0, .int .u8 a2.a1, .int .u8 a2.a2, .int .u8 a2.a3], .blk b3 25 [.int .i64 0, .int .i64 0, .slice none 0 0, .slice none 0 0, .slice none 0 0, .slice none 0 0], .hole]) K w14 ([(-1)]) (some ⟨b13, 0, none⟩) 1 x17 (H.rd (i := 0) (by rfl)) v19 hv18) ?_)
      rintro e w20 ⟨A21, cp22, rfl, H2⟩
      have H : Sep ok w w20 [.blk b1 61 [.int .u8 a2.a0, .int .u8 a2.a1, .int .u8 a2.a2, .int .u8 a2.a3], .blk b3 25 [.int .i64 0, .int .i64 0, .slice none 0 0, .slice none 0 0, .slice none 0 0, .slice none 0 0], .hole] [RE.rd kInt (some ⟨b13, 0, none⟩) 1 ([(-1)]), RE.rd kInt A21 cp22 v19] := H.call H2
      clear H2
      refine ⟨_, rfl, ?_⟩
      show RL _ _ _ _ _ _ _
      refine RL_pure (by exact wn0 rfl) (by rfl) (by rfl) (x_assign (v := .slice A21 v19.length cp22) (by rfl)) ?_
      refine RL_nil ?_
      refine W_seq ?_
      refine W_region ?_
      refine RL_pure (by exact wn0 rfl) (by rfl) (by rfl) (x_move (v := .int .i64 a0) (by rfl)) ?_
      refine RL_pure (by exact wn0 rfl) (by rfl) (by rfl) (x_move (v := .int .i64 a1) (by rfl)) ?_
      refine RL_pure (by exact wn0 rfl) (by rfl) (by rfl) (x_loadA (j := 0) (vs := [.int .u8 a2.a0, .int .u8 a2.a1, .int .u8 a2.a2, .int .u8 a2.a3]) ag61 (by rfl) (H.cells (i := 0) (by rfl)) (by rfl) (by rfl)) ?_
      refine RL_cons (O_buildSlice (vs := [(0, .agg #[.int .u8 a2.a0, .int .u8 a2.a1, .int .u8 a2.a2, .int .u8 a2.a3])]) (cs := [.int .u8 a2.a0, .int .u8 a2.a1, .int .u8 a2.a2, .int .u8 a2.a3]) (by exact wn0 rfl) (by rfl) sl22 sz61 ze61 (by rfl) (by rfl) (by rfl) (by kernel_rfl) H (fun w25 b24 (H : Sep ok w w25 [.blk b1 61 [.int .u8 a2.a0, .int .u8 a2.a1, .int .u8 a2.a2, .int .u8 a2.a3], .blk b3 25 [.int .i64 0, .int .i64 0, .slice none 0 0, .slice none 0 0, .slice none 0 0, .slice none 0 0], .hole, .blk b24 61 [.int .u8 a2.a0, .int .u8 a2.a1, .int .u8 a2.a2, .int .u8 a2.a3]] [RE.rd kInt (some ⟨b13, 0, none⟩) 1 ([(-1)]), RE.rd kInt A21 cp22 v19]) => ?_))
      have H : Sep ok w w25 [.blk b1 61 [.int .u8 a2.a0, .int .u8 a2.a1, .int .u8 a2.a2, .int .u8 a2.a3], .blk b3 25 [.int .i64 0, .int .i64 0, .slice none 0 0, .slice none 0 0, .slice none 0 0, .slice none 0 0], .hole, .row (.slice (some ⟨b24, 0, none⟩) ([a2]).length 1) 61 k_Ar4_Int.sz ([a2]).length [.int .u8 a2.a0, .int .u8 a2.a1, .int .u8 a2.a2, .int .u8 a2.a3]] [RE.rd kInt (some ⟨b13, 0, none⟩) 1 ([(-1)]), RE.rd kInt A21 cp22 v19, RE.chunks k_Ar4_Int [.int .u8 a2.a0, .int .u8 a2.a1, .int .u8 a2.a2, .int .u8 a2.a3] ([a2])] := H.rowOf (i := 3) (D := k_Ar4_Int) (xs := [a2]) (by rfl) (by exact ⟨rfl, rfl⟩) (by rfl)
      refine RL_pure (by exact wn0 rfl) (by rfl) (by rfl) (x_move (v := .int .i64 a0) (by rfl)) ?_
      refine RL_pure (by exact wn0 rfl) (by rfl) (by rfl) (x_move (v := .int .i64 a1) (by rfl)) ?_
      obtain ⟨x28, ex28, qx28, ux28, hm⟩ := ck_some hm
      refine RL_pure (by exact wn0 rfl) (by rfl) (by rfl) (x_mul (by rfl) (by rfl) ux28) ?_
      obtain ⟨v30, hv29, hm⟩ := bind_some hm
      have H : Sep ok w w25 [.blk b1 61 [.int .u8 a2.a0, .int .u8 a2.a1, .int .u8 a2.a2, .int .u8 a2.a3], .blk b3 25 [.int .i64 0, .int .i64 0, .slice none 0 0, .slice none 0 0, .slice none 0 0, .slice none 0 0], .hole, .hole] [RE.rd kInt (some ⟨b13, 0, none⟩) 1 ([(-1)]), RE.rd kInt A21 cp22 v19, RE.rd k_Ar4_Int (some ⟨b24, 0, none⟩) 1 ([a2])] := H.frozen (i := 3) (j := 2) (by rfl) (by rfl)
      refine RL_cons (O_call (by exact wn0 rfl) (by rfl) (by rfl) (x_callL (by rfl) (args := [.slice (some ⟨b24, 0, none⟩) ([a2]).length 1, .int .i64 x28]) (by rfl) (cf74 _ _)) (c74 (okS ok w [.blk b1 61 [.int .u8 a2.a0, .int .u8 a2.a1, .int .u8 a2.a2, .int .u8 a2.a3], .blk b3 25 [.int .i64 0, .int .i64 0, .slice none 0 0, .slice none 0 0, .slice none 0 0, .slice none 0 0], .hole, .hole]) K w25 ([a2]) (some ⟨b24, 0, none⟩) 1 x28 (H.rd (i := 2) (by rfl)) v30 hv29) ?_)
      rintro e w31 ⟨A32, cp33, rfl, H2⟩
      have H : Sep ok w w31 [.blk b1 61 [.int .u8 a2.a0, .int .u8 a2.a1, .int .u8 a2.a2, .int .u8 a2.a3], .blk b3 25 [.int .i64 0, .int .i64 0, .slice none 0 0, .slice none 0 0, .slice none 0 0, .slice none 0 0], .hole, .hole] [RE.rd kInt (some ⟨b13, 0, none⟩) 1 ([(-1)]), RE.rd kInt A21 cp22 v19, RE.rd k_Ar4_Int (some ⟨b24, 0, none⟩) 1 ([a2]), RE.rd k_Ar4_Int A32 cp33 v30] := H.call H2
      clear H2
      refine ⟨_, rfl, ?_⟩
      show RL _ _ _ _ _ _ _
      refine RL_cons (O_buildSlice (vs := [(0, .int .i64 (-2048))]) (cs := [.int .i64 (-2048)]) (by exact wn0 rfl) (by rfl) sl23 sz3 ze3 (by rfl) (by rfl) (by rfl) (by kernel_rfl) H (fun w36 b35 (H : Sep ok w w36 [.blk b1 61 [.int .u8 a2.a0, .int .u8 a2.a1, .int .u8 a2.a2, .int .u8 a2.a3], .blk b3 25 [.int .i64 0, .int .i64 0, .slice none 0 0, .slice none 0 0, .slice none 0 0, .slice none 0 0], .hole, .hole, .blk b35 3 [.int .i64 (-2048)]] [RE.rd kInt (some ⟨b13, 0, none⟩) 1 ([(-1)]), RE.rd kInt A21 cp22 v19, RE.rd k_Ar4_Int (some ⟨b24, 0, none⟩) 1 ([a2]), RE.rd k_Ar4_Int A32 cp33 v30]) => ?_))
      have H : Sep ok w w36 [.blk b1 61 [.int .u8 a2.a0, .int .u8 a2.a1, .int .u8 a2.a2, .int .u8 a2.a3], .blk b3 25 [.int .i64 0, .int .i64 0, .slice none 0 0, .slice none 0 0, .slice none 0 0, .slice none 0 0], .hole, .hole, .row (.slice (some ⟨b35, 0, none⟩) ([(-2048)]).length 1) 3 kInt.sz ([(-2048)]).length [.int .i64 (-2048)]] [RE.rd kInt (some ⟨b13, 0, none⟩) 1 ([(-1)]), RE.rd kInt A21 cp22 v19, RE.rd k_Ar4_Int (some ⟨b24, 0, none⟩) 1 ([a2]), RE.rd k_Ar4_Int A32 cp33 v30, RE.chunks kInt [.int .i64 (-2048)] ([(-2048)])] := H.rowOf (i := 4) (D := kInt) (xs := [(-2048)]) (by rfl) (by exact ⟨rfl, rfl⟩) (by rfl)
      refine RL_pure (by exact wn0 rfl) (by rfl) (by rfl) (x_move (v := .int .i64 a0) (by rfl)) ?_
      refine RL_pure (by exact wn0 rfl) (by rfl) (by rfl) (x_move (v := .int .i64 a1) (by rfl)) ?_
      obtain ⟨x39, ex39, qx39, ux39, hm⟩ := ck_some hm
      refine RL_pure (by exact wn0 rfl) (by rfl) (by rfl) (x_mul (by rfl) (by rfl) ux39) ?_
      obtain ⟨v41, hv40, hm⟩ := bind_some hm
      have H : Sep ok w w36 [.blk b1 61 [.int .u8 a2.a0, .int .u8 a2.a1, .int .u8 a2.a2, .int .u8 a2.a3], .blk b3 25 [.int .i64 0, .int .i64 0, .slice none 0 0, .slice none 0 0, .slice none 0 0, .slice none 0 0], .hole, .hole, .hole] [RE.rd kInt (some ⟨b13, 0, none⟩) 1 ([(-1)]), RE.rd kInt A21 cp22 v19, RE.rd k_Ar4_Int (some ⟨b24, 0, none⟩) 1 ([a2]), RE.rd k_Ar4_Int A32 cp33 v30, RE.rd kInt (some ⟨b35, 0, none⟩) 1 ([(-2048)])] := H.frozen (i := 4) (j := 4) (by rfl) (by rfl)
      refine RL_cons (O_call (by exact wn0 rfl) (by rfl) (by rfl) (x_callL (by rfl) (args := [.slice (some ⟨b35, 0, none⟩) ([(-2048)]).length 1, .int .i64 x39]) (by rfl) (cf73 _ _)) (c73 (okS ok w [.blk b1 61 [.int .u8 a2.a0, .int .u8 a2.a1, .int .u8 a2.a2, .int .u8 a2.a3], .blk b3 25 [.int .i64 0, .int .i64 0, .slice none 0 0, .slice none 0 0, .slice none 0 0, .slice none 0 0], .hole, .hole, .hole]) K w36 ([(-2048)]) (some ⟨b35, 0, none⟩) 1 x39 (H.rd (i := 4) (by rfl)) v41 hv40) ?_)
      rintro e w42 ⟨A43, cp44, rfl, H2⟩
      have H : Sep ok w w42 [.blk b1 61 [.int .u8 a2.a0, .int .u8 a2.a1, .int .u8 a2.a2, .int .u8 a2.a3], .blk b3 25 [.int .i64 0, .int .i64 0, .slice none 0 0, .slice none 0 0, .slice none 0 0, .slice none 0 0], .hole, .hole, .hole] [RE.rd kInt (some ⟨b13, 0, none⟩) 1 ([(-1)]), RE.rd kInt A21 cp22 v19, RE.rd k_Ar4_Int (some ⟨b24, 0, none⟩) 1 ([a2]), RE.rd k_Ar4_Int A32 cp33 v30, RE.rd kInt (some ⟨b35, 0, none⟩) 1 ([(-2048)]), RE.rd kInt A43 cp44 v41] := H.call H2
      clear H2
      refine ⟨_, rfl, ?_⟩
      show RL _ _ _ _ _ _ _
      refine RL_pure (by exact wn0 rfl) (by rfl) (by rfl) (x_move (v := .slice A21 v19.length cp22) (by rfl)) ?_
      refine RL_pure (by exact wn0 rfl) (by rfl) (by rfl) (x_move (v := .slice A21 v19.length cp22) (by rfl)) ?_
      obtain ⟨v47, hv46, hm⟩ := bind_some hm
      refine RL_cons (O_call (by exact wn0 rfl) (by rfl) (by rfl) (x_callL (by rfl) (args := [.slice A21 v19.length cp22]) (by rfl) (cf59 _ _)) (c59 (okS ok w [.blk b1 61 [.int .u8 a2.a0, .int .u8 a2.a1, .int .u8 a2.a2, .int .u8 a2.a3], .blk b3 25 [.int .i64 0, .int .i64 0, .slice none 0 0, .slice none 0 0, .slice none 0 0, .slice none 0 0], .hole, .hole, .hole]) K w42 v19 A21 cp22 (H.rd (i := 1) (by rfl)) v47 hv46) ?_)
      rintro e w48 ⟨A49, cp50, cs51, rfl, H2⟩
      have H : Sep ok w w48 [.blk b1 61 [.int .u8 a2.a0, .int .u8 a2.a1, .int .u8 a2.a2, .int .u8 a2.a3], .blk b3 25 [.int .i64 0, .int .i64 0, .slice none 0 0, .slice none 0 0, .slice none 0 0, .slice none 0 0], .hole, .hole, .hole, .row (.slice A49 v47.length cp50) 3 kInt.sz v47.length cs51] [RE.rd kInt (some ⟨b13, 0, none⟩) 1 ([(-1)]), RE.rd kInt A21 cp22 v19, RE.rd k_Ar4_Int (some ⟨b24, 0, none⟩) 1 ([a2]), RE.rd k_Ar4_Int A32 cp33 v30, RE.rd kInt (some ⟨b35, 0, none⟩) 1 ([(-2048)]), RE.rd kInt A43 cp44 v41, RE.chunks kInt cs51 v47] := H.call H2
      clear H2
      refine ⟨_, rfl, ?_⟩
      show RL _ _ _ _ _ _ _
      refine RL_pure (by exact wn0 rfl) (by rfl) (by rfl) (x_build (vs := [(0, .int .i64 a0), (1, .int .i64 a1), (2, .slice A32 v30.length cp33), (3, .slice A43 v41.length cp44), (4, .slice A21 v19.length cp22), (5, .slice A49 v47.length cp50)]) (cs := [.int .i64 a0, .int .i64 a1, .slice A32 v30.length cp33, .slice A43 v41.length cp44, .slice A21 v19.length cp22, .slice A49 v47.length cp50]) (by rfl) (by kernel_rfl)) ?_
      refine RL_cons (O_store (i := 1) (off := 0) (by exact wn0 rfl) (by rfl) (by rfl) H (by rfl) (vs := [.int .i64 a0, .int .i64 a1, .slice A32 v30.length cp33, .slice A43 v41.length cp44, .slice A21 v19.length cp22, .slice A49 v47.length cp50]) (by rfl) sz25 (by rfl) (by rfl) (by rfl) (fun w54 (H : Sep ok w w54 [.blk b1 61 [.int .u8 a2.a0, .int .u8 a2.a1, .int .u8 a2.a2, .int .u8 a2.a3], .blk b3 25 [.int .i64 a0, .int .i64 a1, .slice A32 v30.length cp33, .slice A43 v41.length cp44, .slice A21 v19.length cp22, .slice A49 v47.length cp50], .hole, .hole, .hole, .row (.slice A49 v47.length cp50) 3 kInt.sz v47.length cs51] [RE.rd kInt (some ⟨b13, 0, none⟩) 1 ([(-1)]), RE.rd kInt A21 cp22 v19, RE.rd k_Ar4_Int (some ⟨b24, 0, none⟩) 1 ([a2]), RE.rd k_Ar4_Int A32 cp33 v30, RE.rd kInt (some ⟨b35, 0, none⟩) 1 ([(-2048)]), RE.rd kInt A43 cp44 v41, RE.chunks kInt cs51 v47]) => ?_))
      refine RL_pure (by exact wn0 rfl) (by rfl) (by rfl) (x_assign (v := .int .i64 0) (by rfl)) ?_
      refine RL_nil ?_
      refine W_ret ?_
      have H : Sep ok w w54 [.blk b1 61 [.int .u8 a2.a0, .int .u8 a2.a1, .int .u8 a2.a2, .int .u8 a2.a3], .blk b3 25 [.int .i64 a0, .int .i64 a1, .slice A32 v30.length cp33, .slice A43 v41.length cp44, .slice A21 v19.length cp22, .slice A49 v47.length cp50], .hole, .hole, .hole, .hole] [RE.rd kInt (some ⟨b13, 0, none⟩) 1 ([(-1)]), RE.rd kInt A21 cp22 v19, RE.rd k_Ar4_Int (some ⟨b24, 0, none⟩) 1 ([a2]), RE.rd k_Ar4_Int A32 cp33 v30, RE.rd kInt (some ⟨b35, 0, none⟩) 1 ([(-2048)]), RE.rd kInt A43 cp44 v41, RE.rd kInt A49 cp50 v47] := H.frozen (i := 5) (j := 6) (by rfl) (by rfl)
      obtain rfl := Option.some.inj hm
      exact ⟨[.agg #[.int .i64 a0, .int .i64 a1, .slice A32 v30.length cp33, .slice A43 v41.length cp44, .slice A21 v19.length cp22, .slice A49 v47.length cp50], .int .i64 0], (.cellA (by rfl) ag25 (H.cells (i := 1) (by rfl)) (by rfl) (.tmp (by rfl) rfl)), A32, cp33, A43, cp44, A21, cp22, A49, cp50, rfl, (H.forgetAll).pick [3, 5, 1, 6]⟩
end Go.Proofs.YtobkigllalbkiaaV.M
