/- A plain Lean function that answers as the Go function does (none: not told), and the proof that a call answers so. Written by program. -/
import Derived.Test.YtobkigllalbkiaaVMTy
import Derived.Test.YtobkigllalbkiaaVMF115
set_option linter.unusedVariables false
namespace Go.Proofs.YtobkigllalbkiaaV.M
open Go.RowKit Go.Proofs.YtobkigllalbkiaaV
def m73_l1b (K : Nat)  (rec1 : (List Int) → Int → Option ((List Int))) (l_row19_1 : (List Int)) (y8_1 : Int) : Option ((List Int)) :=
  (bif (decide (y8_1 < (l_row19_1.length : Int))) then (slg y8_1 (l_row19_1.length : Int) (slg y8_1 (l_row19_1.length : Int) (lete (cpyV l_row19_1 ((y8_1).toNat) (l_row19_1.drop ((y8_1).toNat)).length (l_row19_1.take ((y8_1).toNat))) fun l36 => (ck (y8_1 + ((min (l_row19_1.take ((y8_1).toNat)).length (l_row19_1.drop ((y8_1).toNat)).length : Nat) : Int)) fun x40 => (rec1 l36 x40))))) else some l_row19_1)
def m73_l1 (K : Nat)  : Nat → (List Int) → Int → Option ((List Int))
  | 0 => fun _ _ => none
  | k + 1 => m73_l1b K  (m73_l1 K  k)
/-- slices.Repeat(()int,int) -/
def m73 (K : Nat) (a0 : (List Int)) (a1 : Int) : Option ((List Int)) :=
  (bif (decide (a1 < 0)) then none else ((m115 K (IntKind.u64.wrap (a0.length : Int)) (IntKind.u64.wrap a1)).bind fun v6 => ((bif (decide (0 < v6.1)) then some true else some (decide (9223372036854775807 < v6.2))).bind fun b8 => (bif b8 then none else (ck v6.2 fun x11 => (mks 8 x11 0 fun l15 => (lete (cpyV l15 0 l15.length a0) fun l21 => m73_l1 K K l21 ((min a0.length l15.length : Nat) : Int))))))))
set_option maxRecDepth 100000 in
set_option maxHeartbeats 4000000 in
theorem c73 (ok : Nat → Prop) (K : Nat) (w : World) (a0 : (List Int)) (A1 : Option Addr) (cp2 : Nat) (a1 : Int) (hR3 : Rd kInt w ok A1 cp2 a0) (res : (List Int)) (hm : m73 K a0 a1 = some res) :
    Calls Try.prog 73 #[.slice A1 a0.length cp2, .int .i64 a1] w (fun e w' => ∃ (A0_ : Option Addr) (c0_ : Nat), e = .returned (tup [.slice A0_ res.length c0_]) ∧ Sep ok w w' [] [RE.rd kInt A0_ c0_ res]) := by
  refine calls_W (args := [.slice A1 a0.length cp2, .int .i64 a1]) Try.func73 rfl Try.ntmps73 Try.results73 rfl fun r hr => ?_
  obtain ⟨r1, rfl⟩ := regen (r := r) [(0, .slice A1 a0.length cp2), (1, .int .i64 a1)] ⟨hr 0 _ rfl, hr 1 _ rfl, trivial⟩
  have H : Sep ok w w [] [RE.rd kInt A1 cp2 a0] := Sep.arg (Sep.start ok w) (re := RE.rd kInt A1 cp2 a0) rfl rfl hR3
  unfold m73 at hm
  refine W_seq ?_
  refine W_region ?_
  refine RL_pure (by exact wn0 rfl) (by rfl) (by rfl) (x_assign (v := .slice none 0 0) (by rfl)) ?_
  refine RL_nil ?_
  refine W_seq ?_
  refine W_seq ?_
  refine W_region ?_
  refine RL_pure (by exact wn0 rfl) (by rfl) (by rfl) (x_move (v := .int .i64 a1) (by rfl)) ?_
  refine RL_pure (by exact wn0 rfl) (by rfl) (by rfl) (x_lss (by rfl) (by rfl)) ?_
  refine RL_nil ?_
  refine W_cond (by rfl) (fun hb => ?_) (fun hb => ?_)
  · have hm := cond_t hb hm
    exact (none_some hm).elim
  · have hm := cond_f hb hm
    refine W_skip ?_
    refine W_seq ?_
    refine W_region ?_
    refine RL_pure (by exact wn0 rfl) (by rfl) (by rfl) (x_move (v := .slice A1 a0.length cp2) (by rfl)) ?_
    refine RL_pure (by exact wn0 rfl) (by rfl) (by rfl) (x_len sl23 (by rfl)) ?_
    refine RL_pure (by exact wn0 rfl) (by rfl) (by rfl) (x_conv is3 un164 (by rfl) rfl) ?_
    refine RL_pure (by exact wn0 rfl) (by rfl) (by rfl) (x_move (v := .int .i64 a1) (by rfl)) ?_
    refine RL_pure (by exact wn0 rfl) (by rfl) (by rfl) (x_conv is3 un164 (by rfl) rfl) ?_
    obtain ⟨v6, hv5, hm⟩ := bind_some hm
    refine RL_cons (O_call (by exact wn0 rfl) (by rfl) (by rfl) (x_callL (by rfl) (args := [.int .u64 (IntKind.u64.wrap (a0.length : Int)), .int .u64 (IntKind.u64.wrap a1)]) (by rfl) (cf115 _ _)) (c115 (fun _ => True) K w (IntKind.u64.wrap (a0.length : Int)) (IntKind.u64.wrap a1)  v6 hv5) ?_)
    rintro e w7 ⟨rfl, H2⟩
    have H : Sep ok w w7 [] [RE.rd kInt A1 cp2 a0] := H.below H2.base
    clear H2
    refine ⟨_, rfl, ?_⟩
    show RL _ _ _ _ _ _ _
    refine RL_pure (by exact wn0 rfl) (by rfl) (by rfl) (x_move (v := tup [.int .u64 v6.1, .int .u64 v6.2]) (by rfl)) ?_
    refine RL_pure (by exact wn0 rfl) (by rfl) (by rfl) (x_extract (v := .int .u64 v6.1) (by rfl) (by rfl)) ?_
    refine RL_pure (by exact wn0 rfl) (by rfl) (by rfl) (x_extract (v := .int .u64 v6.2) (by rfl) (by rfl)) ?_
    refine RL_pure (by exact wn0 rfl) (by rfl) (by rfl) (x_assign (v := .int .u64 v6.1) (by rfl)) ?_
    refine RL_pure (by exact wn0 rfl) (by rfl) (by rfl) (x_assign (v := .int .u64 v6.2) (by rfl)) ?_
    refine RL_nil ?_
    refine W_seq ?_
    refine W_seq ?_
    refine W_region ?_
    refine RL_pure (by exact wn0 rfl) (by rfl) (by rfl) (x_move (v := .int .u64 v6.1) (by rfl)) ?_
    refine RL_pure (by exact wn0 rfl) (by rfl) (by rfl) (x_gtr (by rfl) (by rfl)) ?_
    refine RL_pure (by exact wn0 rfl) (by rfl) (by rfl) (x_move (v := .bool (decide (0 < v6.1))) (by rfl)) ?_
    obtain ⟨b8, hmS, hm⟩ := bind_some hm
    refine RL_cut 3 (fun r' w' => Agr [(26, .bool b8), (0, .slice A1 a0.length cp2), (6, .int .u64 v6.2)] r' ∧ Sep ok w w' [] [RE.rd kInt A1 cp2 a0]) ?_ ?_
    · cases hbS : (decide (0 < v6.1))
      · have hm := cond_f hbS hmS
        refine RL_pure (by exact wn1 rfl rfl rfl rfl) (by rfl) (by rfl) (x_move (v := .int .u64 v6.2) (by rfl)) ?_
        refine RL_pure (by exact wn1 rfl rfl rfl rfl) (by rfl) (by rfl) (x_gtr (by rfl) (by rfl)) ?_
        refine RL_pure (by exact wn0 rfl) (by rfl) (by rfl) (x_pick_f (v := .bool (decide (9223372036854775807 < v6.2))) (by rfl) (by rfl)) ?_
        refine RL_nil ?_
        exact ⟨⟨congrArg Value.bool (Option.some.inj hm), rfl, rfl, trivial⟩, H⟩
      · have hm := cond_t hbS hmS
        refine RL_cons (OpR_off (by exact wn2 rfl rfl rfl rfl) (by rfl) (by rfl) ?_)
        refine RL_cons (OpR_off (by exact wn2 rfl rfl rfl rfl) (by rfl) (by rfl) ?_)
        refine RL_pure (by exact wn0 rfl) (by rfl) (by rfl) (x_pick_t (v := .bool true) (by rfl) (by rfl)) ?_
        refine RL_nil ?_
        exact ⟨⟨congrArg Value.bool (Option.some.inj hm), rfl, rfl, trivial⟩, H⟩
    · rintro r' w' ⟨hA, H⟩
      obtain ⟨r9, rfl⟩ := regen _ hA; clear hA
      obtain ⟨w10, rfl⟩ : ∃ W : World, W = w' := ⟨_, rfl⟩
      show RL _ _ _ _ _ _ _
      refine RL_nil ?_
      refine W_cond (by rfl) (fun hb => ?_) (fun hb => ?_)
      · have hm := cond_t hb hm
        exact (none_some hm).elim
      · have hm := cond_f hb hm
        refine W_skip ?_
        refine W_seq ?_
        refine W_region ?_
        refine RL_pure (by exact wn0 rfl) (by rfl) (by rfl) (x_move (v := .int .u64 v6.2) (by rfl)) ?_
        obtain ⟨x11, ex11, qx11, ux11, hm⟩ := ck_some hm
        refine RL_pure (by exact wn0 rfl) (by rfl) (by rfl) (x_conv is164 un3 (by rfl) ux11) ?_
        obtain ⟨l15, h17, hl16, hb18, hm⟩ := mks_some hm
        refine RL_cons (O_makeSlice (D := kInt) (x0 := 0) (by exact wn0 rfl) (by rfl) (by rfl) (by rfl) sl23 sz3 by3 ze3 (by rfl) (by intro w ok; exact rfl) h17 hl16 hb18 H (by rfl) (fun w12 b13 cs14 (H : Sep ok w w12 [.row (.slice (some ⟨b13, 0, none⟩) l15.length l15.length) 3 kInt.sz l15.length cs14] [RE.rd kInt A1 cp2 a0, RE.chunks kInt cs14 l15]) => ?_))
        refine RL_pure (by exact wn0 rfl) (by rfl) (by rfl) (x_assign (v := .slice (some ⟨b13, 0, none⟩) l15.length l15.length) (by rfl)) ?_
        refine RL_nil ?_
        refine W_seq ?_
        refine W_region ?_
        refine RL_pure (by exact wn0 rfl) (by rfl) (by rfl) (x_move (v := .slice (some ⟨b13, 0, none⟩) l15.length l15.length) (by rfl)) ?_
        refine RL_pure (by exact wn0 rfl) (by rfl) (by rfl) (x_move (v := .slice A1 a0.length cp2) (by rfl)) ?_
        obtain ⟨l21, hl22, hm⟩ := lete_some hm
        refine RL_cons (O_copy (D := kInt) (i := 0) (j := 1) (lo := 0) (dn := l15.length) (zs := a0) (by exact wn0 rfl) (by rfl) (by rfl) (H.rowA0 (i := 0) (by rfl)) (by rfl) (by rfl) H (by rfl) (by rfl) (Nat.le_of_eq (Nat.zero_add _)) (H.rd (i := 0) (by rfl)).src sl23 sz3 hl22 (fun w23 cs24 (H : Sep ok w w23 [.row (.slice (some ⟨b13, 0, none⟩) l21.length l15.length) 3 kInt.sz l21.length cs24] [RE.rd kInt A1 cp2 a0, RE.chunks kInt cs24 l21]) => ?_))
        refine RL_pure (by exact wn0 rfl) (by rfl) (by rfl) (x_assign (v := .int .i64 ((min a0.length l15.length : Nat) : Int)) (by rfl)) ?_
        refine RL_nil ?_
        have hn25 : l15.length = l21.length := by rw [← hl22]; exact (length_cpyV (Nat.le_of_eq (Nat.zero_add _))).symm
        have H : Sep ok w w23 [.row (.slice (some ⟨b13, 0, none⟩) l21.length l21.length) 3 kInt.sz l21.length cs24] [RE.rd kInt A1 cp2 a0, RE.chunks kInt cs24 l21] := by (try rw [hn25] at H); exact H
        refine W_regen (l := [(7, .slice (some ⟨b13, 0, none⟩) l21.length l21.length), (8, .int .i64 ((min a0.length l15.length : Nat) : Int))]) ⟨(by (try rw [← hn25]); rfl), rfl, trivial⟩ fun r26 => ?_
        refine W_seq ?_
        refine W_block ?_
        refine W_loop (fun k1 r' w' => ∃ (l_row19_1 : (List Int)), ∃ (y8_1 : Int), ∃ (A_row19_1 : Option Addr), ∃ (c_row19_1 : Nat), ∃ (cs_row19_1 : List Value), m73_l1 K k1 l_row19_1 y8_1 = some res ∧ Agr [(7, .slice A_row19_1 l_row19_1.length c_row19_1), (8, .int .i64 y8_1)] r' ∧ Sep ok w w' [.row (.slice A_row19_1 l_row19_1.length c_row19_1) 3 kInt.sz l_row19_1.length cs_row19_1] [RE.rd kInt A1 cp2 a0, RE.chunks kInt cs_row19_1 l_row19_1]) K ?_ ?_
        · exact ⟨l21, ((min a0.length l15.length : Nat) : Int), (some ⟨b13, 0, none⟩), l21.length, cs24, hm, ⟨(by (try rw [← hn39]); rfl), (by (try rw [← hn39]); rfl), trivial⟩, H⟩
        · rintro k1 r' w' ⟨l_row19_1, y8_1, A_row19_1, c_row19_1, cs_row19_1, hm, hA, H⟩
          obtain ⟨r27, rfl⟩ := regen _ hA; clear hA
          obtain ⟨w28, rfl⟩ : ∃ W : World, W = w' := ⟨_, rfl⟩
          cases k1 with
          | zero => exact (none_some hm).elim
          | succ k1 =>
            have hm : m73_l1b K (m73_l1 K k1) l_row19_1 y8_1 = some res := hm
            unfold m73_l1b at hm
            obtain ⟨rec1, hrec1⟩ : ∃ f, m73_l1 K k1 = f := ⟨_, rfl⟩
            rw [hrec1] at hm
            refine W_seq ?_
            refine W_seq ?_
            refine W_region ?_
            refine RL_pure (by exact wn0 rfl) (by rfl) (by rfl) (x_move (v := .int .i64 y8_1) (by rfl)) ?_
            refine RL_pure (by exact wn0 rfl) (by rfl) (by rfl) (x_move (v := .slice A_row19_1 l_row19_1.length c_row19_1) (by rfl)) ?_
            refine RL_pure (by exact wn0 rfl) (by rfl) (by rfl) (x_len sl23 (by rfl)) ?_
            refine RL_pure (by exact wn0 rfl) (by rfl) (by rfl) (x_lss (by rfl) (by rfl)) ?_
            refine RL_nil ?_
            refine W_cond (by rfl) (fun hb => ?_) (fun hb => ?_)
            · have hm := cond_t hb hm
              refine W_skip ?_
              refine W_block ?_
              refine W_draw [.free 0, .free 1, .free 2, .free 3, .free 4, .free 5, .free 6, .tail 7, .free 8, .free 9] (fun wS => Sep ok w wS [.row (.slice A_row19_1 l_row19_1.length c_row19_1) 3 kInt.sz l_row19_1.length cs_row19_1] [RE.rd kInt A1 cp2 a0, RE.chunks kInt cs_row19_1 l_row19_1]) [7] [0, 1, 2, 3, 4, 5, 6, 8, 9] mixed0 (by kernel_rfl) (by kernel_rfl) (by kernel_rfl) (by rfl) (by exact H.drew) ?_
              obtain ⟨w29, hW⟩ : ∃ W : World, W = { w28 with drawn := w28.drawn + 1 } := ⟨_, rfl⟩
              rw [← hW]
              have H : Sep ok w w29 [.row (.slice A_row19_1 l_row19_1.length c_row19_1) 3 kInt.sz l_row19_1.length cs_row19_1] [RE.rd kInt A1 cp2 a0, RE.chunks kInt cs_row19_1 l_row19_1] := by rw [hW]; exact H.drew
              clear hW
              refine PR_free (by rfl) (by rfl) (by rfl) (by exact wn0 rfl) (fun wS => (x_move (v := .int .i64 y8_1) (by rfl))) ?_
              refine PR_free (by rfl) (by rfl) (by rfl) (by exact wn0 rfl) (fun wS => (x_move (v := .slice A_row19_1 l_row19_1.length c_row19_1) (by rfl))) ?_
              refine PR_free (by rfl) (by rfl) (by rfl) (by exact wn0 rfl) (fun wS => (x_move (v := .int .i64 y8_1) (by rfl))) ?_
              obtain ⟨h30, h31, hm⟩ := slg_some hm
              refine PR_free (by rfl) (by rfl) (by rfl) (by exact wn0 rfl) (fun wS => (x_slice_loL sl23 sz3 (by rfl) (by rfl) h30 h31)) ?_
              refine PR_free (by rfl) (by rfl) (by rfl) (by exact wn0 rfl) (fun wS => (x_move (v := .slice A_row19_1 l_row19_1.length c_row19_1) (by rfl))) ?_
              refine PR_free (by rfl) (by rfl) (by rfl) (by exact wn0 rfl) (fun wS => (x_move (v := .int .i64 y8_1) (by rfl))) ?_
              obtain ⟨h33, h34, hm⟩ := slg_some hm
              have h35 := (H.rowForm (i := 0) (by rfl)).1
              refine PR_free (by rfl) (by rfl) (by rfl) (by exact wn0 rfl) (fun wS => (x_slice_hiL sl23 sz3 (by rfl) (by rfl) h33 h34 h35)) ?_
              obtain ⟨l36, hl37, hm⟩ := lete_some hm
              refine PR_tail (by rfl) (O_copy (D := kInt) (i := 0) (j := 1) (lo := (y8_1).toNat) (dn := (l_row19_1.drop ((y8_1).toNat)).length) (zs := (l_row19_1.take ((y8_1).toNat))) (by exact wn0 rfl) (by rfl) (by rfl) (by rfl) (by rfl) (by rfl) H (by rfl) (by rfl) (drop_le h30 h31) (SrcAt.takeN (H.rowSrc (lo := 0) (i := 0) (j := 1) (by rfl) (by rfl)) _) sl23 sz3 hl37 (fun w38 cs39 (H : Sep ok w w38 [.row (.slice A_row19_1 l36.length c_row19_1) 3 kInt.sz l36.length cs39] [RE.rd kInt A1 cp2 a0, RE.chunks kInt cs39 l36]) => ?_))
              obtain ⟨x40, ex40, qx40, ux40, hm⟩ := ck_some hm
              refine PR_free (by rfl) (by rfl) (by rfl) (by exact wn0 rfl) (fun wS => (x_add (by rfl) (by rfl) ux40)) ?_
              refine PR_free (by rfl) (by rfl) (by rfl) (by exact wn0 rfl) (fun wS => (x_assign (v := .int .i64 x40) (by rfl))) ?_
              refine PR_nil ?_
              have hn41 : l_row19_1.length = l36.length := by rw [← hl37]; exact (length_cpyV (drop_le h30 h31)).symm
              have H : Sep ok w w38 [.row (.slice A_row19_1 l36.length c_row19_1) 3 kInt.sz l36.length cs39] [RE.rd kInt A1 cp2 a0, RE.chunks kInt cs39 l36] := by (try rw [hn41] at H); exact H
              subst hrec1
              exact ⟨k1, Nat.lt_succ_self k1, l36, x40, A_row19_1, c_row19_1, cs39, hm, ⟨(by (try rw [← hn41]); rfl), rfl, trivial⟩, H⟩
            · have hm := cond_f hb hm
              refine W_exit ?_
              refine W_seq ?_
              refine W_region ?_
              refine RL_pure (by exact wn0 rfl) (by rfl) (by rfl) (x_move (v := .slice A_row19_1 l_row19_1.length c_row19_1) (by rfl)) ?_
              refine RL_pure (by exact wn0 rfl) (by rfl) (by rfl) (x_assign (v := .slice A_row19_1 l_row19_1.length c_row19_1) (by rfl)) ?_
              refine RL_nil ?_
              refine W_ret ?_
              have H : Sep ok w w28 [.hole] [RE.rd kInt A1 cp2 a0, RE.rd kInt A_row19_1 c_row19_1 l_row19_1] := H.frozen (i := 0) (j := 1) (by rfl) (by rfl)
              obtain rfl := Option.some.inj hm
              exact ⟨[.slice A_row19_1 l_row19_1.length c_row19_1], (.tmp (by rfl) rfl), A_row19_1, c_row19_1, rfl, (H.forgetAll).pick [1]⟩
end Go.Proofs.YtobkigllalbkiaaV.M
