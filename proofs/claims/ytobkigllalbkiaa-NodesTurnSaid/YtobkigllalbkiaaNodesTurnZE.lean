/- Part 5 of the texts that the proof of NodesTurn stands on. -/
import Derived.Test.YtobkigllalbkiaaNodesTurnZD
/- A plain Lean function that answers as the Go function does (none: not told), and the proof that a call answers so. Written by program. -/
set_option linter.unusedVariables false
namespace Go.Proofs.YtobkigllalbkiaaV.M
open Go.RowKit Go.Proofs.YtobkigllalbkiaaV
def m96_l2b (K : Nat) (a0 : S_Graph) (y3_1 : Int) (rec1 : Int → Option (Bool)) (rec2 : Int → Option (Bool)) (y4_2 : Int) : Option (Bool) :=
 (idx a0.Kids y3_1 fun el68 => (bif (decide (y4_2 < (el68.length : Int))) then (idx a0.Kids y3_1 fun el85 => (idx el85 y4_2 fun el102 => ((m128 K a0.Arena el102).bind fun v111 => (bif (!v111) then some false else (ck (y4_2 + 1) fun x113 => (rec2 x113)))))) else (ck (y3_1 + 1) fun x114 => (rec1 x114))))
def m96_l2 (K : Nat) (a0 : S_Graph) (y3_1 : Int) (rec1 : Int → Option (Bool)) : Nat → Int → Option (Bool)
 | 0 => fun _ => none
 | k + 1 => m96_l2b K a0 y3_1 rec1 (m96_l2 K a0 y3_1 rec1 k)
def m96_l1b (K : Nat) (a0 : S_Graph) (rec1 : Int → Option (Bool)) (y3_1 : Int) : Option (Bool) :=
 (bif (decide (y3_1 < (a0.Kids.length : Int))) then (idx a0.Kids y3_1 fun el19 => ((bif (decide (16 < (el19.length : Int))) then some true else (idx a0.Kids y3_1 fun el37 => ((bif (decide (0 < (el37.length : Int))) then (idx a0.Arena.Slots y3_1 fun el55 => some (!el55.Live)) else some false).bind fun b54 => some b54))).bind fun b36 => (bif b36 then some false else m96_l2 K a0 y3_1 rec1 K 0))) else ((m129 K a0).bind fun v116 => some v116))
def m96_l1 (K : Nat) (a0 : S_Graph) : Nat → Int → Option (Bool)
 | 0 => fun _ => none
 | k + 1 => m96_l1b K a0 (m96_l1 K a0 k)
/-- diorama/dioramaref06.May -/
def m96 (K : Nat) (a0 : S_Graph) : Option (Bool) :=
 ((m127 K a0.Arena).bind fun v12 => ((bif (!v12) then some true else some ((a0.Kids.length : Int) != (a0.Arena.Slots.length : Int))).bind fun b14 => (bif b14 then some false else m96_l1 K a0 K 0)))
set_option maxRecDepth 100000 in
set_option maxHeartbeats 4000000 in
theorem c96 (ok : Okp) (K : Nat) (w : World) (a0 : S_Graph) (A1 : Option Addr) (cp2 : Nat) (A5 : Option Addr) (cp6 : Nat) (hR3 : Rd k_Slot w ok A1 cp2 a0.Arena.Slots) (hR7 : Rd (Kd.slice k_Handle) w ok A5 cp6 a0.Kids) (res : Bool) (hm : m96 K a0 = some res) :
  Calls Try.prog 96 #[.agg #[.slice A1 a0.Arena.Slots.length cp2, .slice A5 a0.Kids.length cp6]] w (fun e w' => e = .returned (tup [.bool res]) ∧ Sep ok w w' [] []) := by
 refine calls_W (args := [.agg #[.slice A1 a0.Arena.Slots.length cp2, .slice A5 a0.Kids.length cp6]]) Try.func96 rfl Try.ntmps96 Try.results96 rfl fun r hr => ?_
 obtain ⟨r1, rfl⟩ := regen (r := r) [(0, .agg #[.slice A1 a0.Arena.Slots.length cp2, .slice A5 a0.Kids.length cp6])] ⟨hr 0 _ rfl, trivial⟩
 have H : Sep ok w w [] [RDS A1 cp2 a0, RDK A5 cp6 a0] := Sep.arg (Sep.arg (Sep.start ok w) (re := RE.rd k_Slot A1 cp2 a0.Arena.Slots) rfl rfl hR3) (re := RE.rd (Kd.slice k_Handle) A5 cp6 a0.Kids) rfl rfl hR7
 unfold m96 at hm
 refine W_seq ?_
 refine W_region ?_
 refine RL_cons (O_box (by exact wn0 rfl) (by rfl) (by rfl) (by rfl) H (fun w10 b9 (H : Sep ok w w10 [GRB b9 A1 cp2 A5 cp6 a0] [RDS A1 cp2 a0, RDK A5 cp6 a0]) => ?_))
 refine RL_p (x_assign (v := .bool false) (by rfl)) ?_
 refine RL_nil ?_
 refine W_seq ?_
 refine W_seq ?_
 refine W_region ?_
 refine RL_p (x_fieldAddr fo79_0 (by rfl)) ?_
 refine RL_p (x_loadA (j := 0) (vs := [.slice A1 a0.Arena.Slots.length cp2]) ag76 (by rfl) (H.cells (i := 0) (by rfl)) (by rfl) (by rfl)) ?_
 obtain ⟨v12, hv11, hm⟩ := bind_some hm
 refine RL_cons (O_call (by exact wn0 rfl) (by rfl) (by rfl) (x_callL (by rfl) (args := [.agg #[.slice A1 a0.Arena.Slots.length cp2]]) (by rfl) (cf127 _ _)) (c127 okT K w10 a0.Arena A1 cp2 (H.rd (i := 0) (by rfl)).any v12 hv11) ?_)
 rintro e w13 ⟨rfl, H2⟩
 have H : Sep ok w w13 [GRB b9 A1 cp2 A5 cp6 a0] [RDS A1 cp2 a0, RDK A5 cp6 a0] := H.below H2.base
 clear H2
 refine ⟨_, rfl, ?_⟩
 show RL _ _ _ _ _ _ _
 refine RL_p (x_not (by rfl)) ?_
 refine RL_p (x_move (v := .bool (!v12)) (by rfl)) ?_
 obtain ⟨b14, hmS, hm⟩ := bind_some hm
 refine RL_cut 9 (fun r' w' => Agr [(18, .bool b14), (1, .pointer (some ⟨b9, 0, none⟩))] r' ∧ Sep ok w w' [GRB b9 A1 cp2 A5 cp6 a0] [RDS A1 cp2 a0, RDK A5 cp6 a0]) ?_ ?_
 ·cases hbS : (!v12)
  ·have hm := cond_f hbS hmS
   refine RL_pure (by exact wn1 rfl rfl rfl rfl) (by rfl) (by rfl) (x_fieldAddr fo79_1 (by rfl)) ?_
   refine RL_pure (by exact wn1 rfl rfl rfl rfl) (by rfl) (by rfl) (x_load (j := 1) (v := .slice A5 a0.Kids.length cp6) sc77 (by rfl) (H.cells (i := 0) (by rfl)) (by rfl)) ?_
   refine RL_pure (by exact wn1 rfl rfl rfl rfl) (by rfl) (by rfl) (x_len sl77 (by rfl)) ?_
   refine RL_pure (by exact wn1 rfl rfl rfl rfl) (by rfl) (by rfl) (x_fieldAddr fo79_0 (by rfl)) ?_
   refine RL_pure (by exact wn1 rfl rfl rfl rfl) (by rfl) (by rfl) (x_fieldAddr fo76_0 (by rfl)) ?_
   refine RL_pure (by exact wn1 rfl rfl rfl rfl) (by rfl) (by rfl) (x_load (j := 0) (v := .slice A1 a0.Arena.Slots.length cp2) sc74 (by rfl) (H.cells (i := 0) (by rfl)) (by rfl)) ?_
   refine RL_pure (by exact wn1 rfl rfl rfl rfl) (by rfl) (by rfl) (x_len sl74 (by rfl)) ?_
   refine RL_pure (by exact wn1 rfl rfl rfl rfl) (by rfl) (by rfl) (x_neq (by rfl) (by rfl)) ?_
   refine RL_p (x_pick_f (v := .bool ((a0.Kids.length : Int) != (a0.Arena.Slots.length : Int))) (by rfl) (by rfl)) ?_
   refine RL_nil ?_
   exact ⟨⟨congrArg Value.bool (Option.some.inj hm), rfl, trivial⟩, H⟩
  ·have hm := cond_t hbS hmS
   refine RL_cons (OpR_off (by exact wn2 rfl rfl rfl rfl) (by rfl) (by rfl) ?_)
   refine RL_cons (OpR_off (by exact wn2 rfl rfl rfl rfl) (by rfl) (by rfl) ?_)
   refine RL_cons (OpR_off (by exact wn2 rfl rfl rfl rfl) (by rfl) (by rfl) ?_)
   refine RL_cons (OpR_off (by exact wn2 rfl rfl rfl rfl) (by rfl) (by rfl) ?_)
   refine RL_cons (OpR_off (by exact wn2 rfl rfl rfl rfl) (by rfl) (by rfl) ?_)
   refine RL_cons (OpR_off (by exact wn2 rfl rfl rfl rfl) (by rfl) (by rfl) ?_)
   refine RL_cons (OpR_off (by exact wn2 rfl rfl rfl rfl) (by rfl) (by rfl) ?_)
   refine RL_cons (OpR_off (by exact wn2 rfl rfl rfl rfl) (by rfl) (by rfl) ?_)
   refine RL_p (x_pick_t (v := .bool true) (by rfl) (by rfl)) ?_
   refine RL_nil ?_
   exact ⟨⟨congrArg Value.bool (Option.some.inj hm), rfl, trivial⟩, H⟩
 ·rintro r' w' ⟨hA, H⟩
  obtain ⟨r15, rfl⟩ := regen _ hA; clear hA
  obtain ⟨w16, rfl⟩ : ∃ W : World, W = w' := ⟨_, rfl⟩
  show RL _ _ _ _ _ _ _
  refine RL_nil ?_
  refine W_cond (by rfl) (fun hb => ?_) (fun hb => ?_)
  ·have hm := cond_t hb hm
   refine W_seq ?_
   refine W_region ?_
   refine RL_p (x_assign (v := .bool false) (by rfl)) ?_
   refine RL_nil ?_
   refine W_ret ?_
   obtain rfl := Option.some.inj hm
   exact ⟨[.bool false], (.tmp (by rfl) rfl), rfl, H.none_⟩
  ·have hm := cond_f hb hm
   refine W_skip ?_
   refine W_seq ?_
   refine W_seq ?_
   refine W_region ?_
   refine RL_p (x_assign (v := .int .i64 0) (by rfl)) ?_
   refine RL_nil ?_
   refine W_block ?_
   refine W_loop (fun k1 r' w' => ∃ (y3_1 : Int), m96_l1 K a0 k1 y3_1 = some res ∧ Agr [(1, .pointer (some ⟨b9, 0, none⟩)), (3, .int .i64 y3_1)] r' ∧ Sep ok w w' [GRB b9 A1 cp2 A5 cp6 a0] [RDS A1 cp2 a0, RDK A5 cp6 a0]) K ?_ ?_
   ·exact ⟨0, hm, ⟨rfl, rfl, trivial⟩, H⟩
   ·rintro k1 r' w' ⟨y3_1, hm, hA, H⟩
    obtain ⟨r17, rfl⟩ := regen _ hA; clear hA
    obtain ⟨w18, rfl⟩ : ∃ W : World, W = w' := ⟨_, rfl⟩
    cases k1 with
    | zero => exact (none_some hm).elim
    | succ k1 =>
     have hm : m96_l1b K a0 (m96_l1 K a0 k1) y3_1 = some res := hm
     unfold m96_l1b at hm
     obtain ⟨rec1, hrec1⟩ : ∃ f, m96_l1 K a0 k1 = f := ⟨_, rfl⟩
     rw [hrec1] at hm
     refine W_seq ?_
     refine W_seq ?_
     refine W_region ?_
     refine RL_p (x_move (v := .int .i64 y3_1) (by rfl)) ?_
     refine RL_p (x_fieldAddr fo79_1 (by rfl)) ?_
     refine RL_p (x_load (j := 1) (v := .slice A5 a0.Kids.length cp6) sc77 (by rfl) (H.cells (i := 0) (by rfl)) (by rfl)) ?_
     refine RL_p (x_len sl77 (by rfl)) ?_
     refine RL_p (x_lss (by rfl) (by rfl)) ?_
     refine RL_nil ?_
     refine W_cond (by rfl) (fun hb => ?_) (fun hb => ?_)
     ·have hm := cond_t hb hm
      refine W_skip ?_
      refine W_seq ?_
      refine W_block ?_
      refine W_seq ?_
      refine W_seq ?_
      refine W_region ?_
      refine RL_p (x_fieldAddr fo79_1 (by rfl)) ?_
      refine RL_p (x_load (j := 1) (v := .slice A5 a0.Kids.length cp6) sc77 (by rfl) (H.cells (i := 0) (by rfl)) (by rfl)) ?_
      refine RL_p (x_move (v := .int .i64 y3_1) (by rfl)) ?_
      obtain ⟨el19, h20, h21, he22, hm⟩ := idx_some hm
      obtain ⟨g24, o25, hA23⟩ := (H.rd (i := 1) (by rfl)).addr he22
      obtain ⟨cs26, hk27, hat28, hg_cs26⟩ := (H.rd (i := 1) (by rfl)).openAt hA23 he22
      obtain ⟨A31, cp32, rfl, hR34⟩ := hk27
      have H : Sep ok w w18 [GRB b9 A1 cp2 A5 cp6 a0] [RDS A1 cp2 a0, RDK A5 cp6 a0, RE.cells g24 (o25 + (y3_1).toNat * 1) [.slice A31 el19.length cp32]] := Sep.also H (re := RE.cells g24 (o25 + (y3_1).toNat * 1) [.slice A31 el19.length cp32]) ⟨hg_cs26, hat28⟩
      have H : Sep ok w w18 [GRB b9 A1 cp2 A5 cp6 a0] [RDS A1 cp2 a0, RDK A5 cp6 a0, RE.cells g24 (o25 + (y3_1).toNat * 1) [.slice A31 el19.length cp32], RE.rd k_Handle A31 cp32 el19] := Sep.also H (re := RE.rd k_Handle A31 cp32 el19) hR34
      refine RL_p (x_indexAddr sl77 sz87 (by rfl) (by rfl) hA23 h20 h21) ?_
      refine RL_p (x_load (j := 0) (v := .slice A31 el19.length cp32) sc87 (by rfl) (H.cellsR (i := 2) (by rfl)) (by rfl)) ?_
      refine RL_p (x_len sl87 (by rfl)) ?_
      refine RL_p (x_gtr (by rfl) (by rfl)) ?_
      refine RL_p (x_move (v := .bool (decide (16 < (el19.length : Int)))) (by rfl)) ?_
      obtain ⟨b36, hmS, hm⟩ := bind_some hm
      refine RL_cut 18 (fun r' w' => Agr [(51, .bool b36), (1, .pointer (some ⟨b9, 0, none⟩)), (3, .int .i64 y3_1)] r' ∧ Sep ok w w' [GRB b9 A1 cp2 A5 cp6 a0] [RDS A1 cp2 a0, RDK A5 cp6 a0, RE.cells g24 (o25 + (y3_1).toNat * 1) [.slice A31 el19.length cp32], RE.rd k_Handle A31 cp32 el19]) ?_ ?_
      ·cases hbS : (decide (16 < (el19.length : Int)))
       ·have hm := cond_f hbS hmS
        refine RL_pure (by exact wn1 rfl rfl rfl rfl) (by rfl) (by rfl) (x_fieldAddr fo79_1 (by rfl)) ?_
        refine RL_pure (by exact wn1 rfl rfl rfl rfl) (by rfl) (by rfl) (x_load (j := 1) (v := .slice A5 a0.Kids.length cp6) sc77 (by rfl) (H.cells (i := 0) (by rfl)) (by rfl)) ?_
        refine RL_pure (by exact wn1 rfl rfl rfl rfl) (by rfl) (by rfl) (x_move (v := .int .i64 y3_1) (by rfl)) ?_
        obtain ⟨el37, h38, h39, he40, hm⟩ := idx_some hm
        obtain ⟨g42, o43, hA41⟩ := (H.rd (i := 1) (by rfl)).addr he40
        obtain ⟨cs44, hk45, hat46, hg_cs44⟩ := (H.rd (i := 1) (by rfl)).openAt hA41 he40
        obtain ⟨A49, cp50, rfl, hR52⟩ := hk45
        have H : Sep ok w w18 [GRB b9 A1 cp2 A5 cp6 a0] [RDS A1 cp2 a0, RDK A5 cp6 a0, RE.cells g24 (o25 + (y3_1).toNat * 1) [.slice A31 el19.length cp32], RE.rd k_Handle A31 cp32 el19, RE.cells g42 (o43 + (y3_1).toNat * 1) [.slice A49 el37.length cp50]] := Sep.also H (re := RE.cells g42 (o43 + (y3_1).toNat * 1) [.slice A49 el37.length cp50]) ⟨hg_cs44, hat46⟩
        have H : Sep ok w w18 [GRB b9 A1 cp2 A5 cp6 a0] [RDS A1 cp2 a0, RDK A5 cp6 a0, RE.cells g24 (o25 + (y3_1).toNat * 1) [.slice A31 el19.length cp32], RE.rd k_Handle A31 cp32 el19, RE.cells g42 (o43 + (y3_1).toNat * 1) [.slice A49 el37.length cp50], RE.rd k_Handle A49 cp50 el37] := Sep.also H (re := RE.rd k_Handle A49 cp50 el37) hR52
        refine RL_pure (by exact wn1 rfl rfl rfl rfl) (by rfl) (by rfl) (x_indexAddr sl77 sz87 (by rfl) (by rfl) hA41 h38 h39) ?_
        refine RL_pure (by exact wn1 rfl rfl rfl rfl) (by rfl) (by rfl) (x_load (j := 0) (v := .slice A49 el37.length cp50) sc87 (by rfl) (H.cellsR (i := 4) (by rfl)) (by rfl)) ?_
        refine RL_pure (by exact wn1 rfl rfl rfl rfl) (by rfl) (by rfl) (x_len sl87 (by rfl)) ?_
        refine RL_pure (by exact wn1 rfl rfl rfl rfl) (by rfl) (by rfl) (x_gtr (by rfl) (by rfl)) ?_
        refine RL_pure (by exact wn1 rfl rfl rfl rfl) (by rfl) (by rfl) (x_move (v := .bool (decide (0 < (el37.length : Int)))) (by rfl)) ?_
        obtain ⟨b54, hmS, hm⟩ := bind_some hm
        refine RL_cut 9 (fun r' w' => Agr [(50, .bool b54), (1, .pointer (some ⟨b9, 0, none⟩)), (3, .int .i64 y3_1), (33, .bool false)] r' ∧ Sep ok w w' [GRB b9 A1 cp2 A5 cp6 a0] [RDS A1 cp2 a0, RDK A5 cp6 a0, RE.cells g24 (o25 + (y3_1).toNat * 1) [.slice A31 el19.length cp32], RE.rd k_Handle A31 cp32 el19, RE.cells g42 (o43 + (y3_1).toNat * 1) [.slice A49 el37.length cp50], RE.rd k_Handle A49 cp50 el37]) ?_ ?_
        ·cases hbS : (decide (0 < (el37.length : Int)))
         ·have hm := cond_f hbS hmS
          refine RL_cons (OpR_off (by exact wn2 rfl rfl rfl rfl) (by rfl) (by rfl) ?_)
          refine RL_cons (OpR_off (by exact wn2 rfl rfl rfl rfl) (by rfl) (by rfl) ?_)
          refine RL_cons (OpR_off (by exact wn2 rfl rfl rfl rfl) (by rfl) (by rfl) ?_)
          refine RL_cons (OpR_off (by exact wn2 rfl rfl rfl rfl) (by rfl) (by rfl) ?_)
          refine RL_cons (OpR_off (by exact wn2 rfl rfl rfl rfl) (by rfl) (by rfl) ?_)
          refine RL_cons (OpR_off (by exact wn2 rfl rfl rfl rfl) (by rfl) (by rfl) ?_)
          refine RL_cons (OpR_off (by exact wn2 rfl rfl rfl rfl) (by rfl) (by rfl) ?_)
          refine RL_cons (OpR_off (by exact wn2 rfl rfl rfl rfl) (by rfl) (by rfl) ?_)
          refine RL_pure (by exact wn1 rfl rfl rfl rfl) (by rfl) (by rfl) (x_pick_f (v := .bool false) (by rfl) (by rfl)) ?_
          refine RL_nil ?_
          exact ⟨⟨congrArg Value.bool (Option.some.inj hm), rfl, rfl, rfl, trivial⟩, H⟩
         ·have hm := cond_t hbS hmS
          refine RL_pure (by exact wn1 rfl rfl rfl rfl) (by rfl) (by rfl) (x_fieldAddr fo79_0 (by rfl)) ?_
          refine RL_pure (by exact wn1 rfl rfl rfl rfl) (by rfl) (by rfl) (x_fieldAddr fo76_0 (by rfl)) ?_
          refine RL_pure (by exact wn1 rfl rfl rfl rfl) (by rfl) (by rfl) (x_load (j := 0) (v := .slice A1 a0.Arena.Slots.length cp2) sc74 (by rfl) (H.cells (i := 0) (by rfl)) (by rfl)) ?_
          refine RL_pure (by exact wn1 rfl rfl rfl rfl) (by rfl) (by rfl) (x_move (v := .int .i64 y3_1) (by rfl)) ?_
          obtain ⟨el55, h56, h57, he58, hm⟩ := idx_some hm
          obtain ⟨g60, o61, hA59⟩ := (H.rd (i := 0) (by rfl)).addr he58
          refine RL_pure (by exact wn1 rfl rfl rfl rfl) (by rfl) (by rfl) (x_indexAddr sl74 sz96 (by rfl) (by rfl) hA59 h56 h57) ?_
          refine RL_pure (by exact wn1 rfl rfl rfl rfl) (by rfl) (by rfl) (x_fieldAddr fo96_1 (by rfl)) ?_
          refine RL_pure (by exact wn1 rfl rfl rfl rfl) (by rfl) (by rfl) (x_load (j := 1) (v := .bool el55.Live) sc4 (by rfl) (Rd.flatAt (n := 2) (H.rd (i := 0) (by rfl)) hA59 he58) (by rfl)) ?_
          refine RL_pure (by exact wn1 rfl rfl rfl rfl) (by rfl) (by rfl) (x_not (by rfl)) ?_
          refine RL_pure (by exact wn1 rfl rfl rfl rfl) (by rfl) (by rfl) (x_pick_t (v := .bool (!el55.Live)) (by rfl) (by rfl)) ?_
          refine RL_nil ?_
          exact ⟨⟨congrArg Value.bool (Option.some.inj hm), rfl, rfl, rfl, trivial⟩, H⟩
        ·rintro r' w' ⟨hA, H⟩
         obtain ⟨r62, rfl⟩ := regen _ hA; clear hA
         obtain ⟨w63, rfl⟩ : ∃ W : World, W = w' := ⟨_, rfl⟩
         show RL _ _ _ _ _ _ _
         refine RL_p (x_pick_f (v := .bool b54) (by rfl) (by rfl)) ?_
         refine RL_nil ?_
         exact ⟨⟨congrArg Value.bool (Option.some.inj hm), rfl, rfl, trivial⟩, (H.takeL 1).takeR 4⟩
       ·have hm := cond_t hbS hmS
        refine RL_cons (OpR_off (by exact wn2 rfl rfl rfl rfl) (by rfl) (by rfl) ?_)
        refine RL_cons (OpR_off (by exact wn2 rfl rfl rfl rfl) (by rfl) (by rfl) ?_)
        refine RL_cons (OpR_off (by exact wn2 rfl rfl rfl rfl) (by rfl) (by rfl) ?_)
        refine RL_cons (OpR_off (by exact wn2 rfl rfl rfl rfl) (by rfl) (by rfl) ?_)
        refine RL_cons (OpR_off (by exact wn2 rfl rfl rfl rfl) (by rfl) (by rfl) ?_)
        refine RL_cons (OpR_off (by exact wn2 rfl rfl rfl rfl) (by rfl) (by rfl) ?_)
        refine RL_cons (OpR_off (by exact wn2 rfl rfl rfl rfl) (by rfl) (by rfl) ?_)
        refine RL_cons (OpR_off (by exact wn2 rfl rfl rfl rfl) (by rfl) (by rfl) ?_)
        refine RL_cons (OpR_off (by exact wn3 rfl rfl rfl) (by rfl) (by rfl) ?_)
        refine RL_cons (OpR_off (by exact wn3 rfl rfl rfl) (by rfl) (by rfl) ?_)
        refine RL_cons (OpR_off (by exact wn3 rfl rfl rfl) (by rfl) (by rfl) ?_)
        refine RL_cons (OpR_off (by exact wn3 rfl rfl rfl) (by rfl) (by rfl) ?_)
        refine RL_cons (OpR_off (by exact wn3 rfl rfl rfl) (by rfl) (by rfl) ?_)
        refine RL_cons (OpR_off (by exact wn3 rfl rfl rfl) (by rfl) (by rfl) ?_)
        refine RL_cons (OpR_off (by exact wn3 rfl rfl rfl) (by rfl) (by rfl) ?_)
        refine RL_cons (OpR_off (by exact wn3 rfl rfl rfl) (by rfl) (by rfl) ?_)
        refine RL_cons (OpR_off (by exact wn2 rfl rfl rfl rfl) (by rfl) (by rfl) ?_)
        refine RL_p (x_pick_t (v := .bool true) (by rfl) (by rfl)) ?_
        refine RL_nil ?_
        exact ⟨⟨congrArg Value.bool (Option.some.inj hm), rfl, rfl, trivial⟩, H⟩
      ·rintro r' w' ⟨hA, H⟩
       obtain ⟨r64, rfl⟩ := regen _ hA; clear hA
       obtain ⟨w65, rfl⟩ : ∃ W : World, W = w' := ⟨_, rfl⟩
       show RL _ _ _ _ _ _ _
       refine RL_nil ?_
       refine W_cond (by rfl) (fun hb => ?_) (fun hb => ?_)
       ·have hm := cond_t hb hm
        refine W_seq ?_
        refine W_region ?_
        refine RL_p (x_assign (v := .bool false) (by rfl)) ?_
        refine RL_nil ?_
        refine W_ret ?_
        obtain rfl := Option.some.inj hm
        exact ⟨[.bool false], (.tmp (by rfl) rfl), rfl, H.none_⟩
       ·have hm := cond_f hb hm
        refine W_skip ?_
        refine W_seq ?_
        refine W_region ?_
        refine RL_p (x_assign (v := .int .i64 0) (by rfl)) ?_
        refine RL_nil ?_
        refine W_block ?_
        refine W_loop (fun k2 r' w' => ∃ (y4_2 : Int), m96_l2 K a0 y3_1 rec1 k2 y4_2 = some res ∧ Agr [(1, .pointer (some ⟨b9, 0, none⟩)), (3, .int .i64 y3_1), (4, .int .i64 y4_2)] r' ∧ Sep ok w w' [GRB b9 A1 cp2 A5 cp6 a0] [RDS A1 cp2 a0, RDK A5 cp6 a0, RE.cells g24 (o25 + (y3_1).toNat * 1) [.slice A31 el19.length cp32], RE.rd k_Handle A31 cp32 el19]) K ?_ ?_
        ·exact ⟨0, hm, ⟨rfl, rfl, rfl, trivial⟩, H⟩
        ·rintro k2 r' w' ⟨y4_2, hm, hA, H⟩
         obtain ⟨r66, rfl⟩ := regen _ hA; clear hA
         obtain ⟨w67, rfl⟩ : ∃ W : World, W = w' := ⟨_, rfl⟩
         cases k2 with
         | zero => exact (none_some hm).elim
         | succ k2 =>
          have hm : m96_l2b K a0 y3_1 rec1 (m96_l2 K a0 y3_1 rec1 k2) y4_2 = some res := hm
          unfold m96_l2b at hm
          obtain ⟨rec2, hrec2⟩ : ∃ f, m96_l2 K a0 y3_1 rec1 k2 = f := ⟨_, rfl⟩
          rw [hrec2] at hm
          refine W_seq ?_
          refine W_seq ?_
          refine W_region ?_
          refine RL_p (x_move (v := .int .i64 y4_2) (by rfl)) ?_
          refine RL_p (x_fieldAddr fo79_1 (by rfl)) ?_
          refine RL_p (x_load (j := 1) (v := .slice A5 a0.Kids.length cp6) sc77 (by rfl) (H.cells (i := 0) (by rfl)) (by rfl)) ?_
          refine RL_p (x_move (v := .int .i64 y3_1) (by rfl)) ?_
          obtain ⟨el68, h69, h70, he71, hm⟩ := idx_some hm
          obtain ⟨g73, o74, hA72⟩ := (H.rd (i := 1) (by rfl)).addr he71
          obtain ⟨cs75, hk76, hat77, hg_cs75⟩ := (H.rd (i := 1) (by rfl)).openAt hA72 he71
          obtain ⟨A80, cp81, rfl, hR83⟩ := hk76
          have H : Sep ok w w67 [GRB b9 A1 cp2 A5 cp6 a0] [RDS A1 cp2 a0, RDK A5 cp6 a0, RE.cells g24 (o25 + (y3_1).toNat * 1) [.slice A31 el19.length cp32], RE.rd k_Handle A31 cp32 el19, RE.cells g73 (o74 + (y3_1).toNat * 1) [.slice A80 el68.length cp81]] := Sep.also H (re := RE.cells g73 (o74 + (y3_1).toNat * 1) [.slice A80 el68.length cp81]) ⟨hg_cs75, hat77⟩
          have H : Sep ok w w67 [GRB b9 A1 cp2 A5 cp6 a0] [RDS A1 cp2 a0, RDK A5 cp6 a0, RE.cells g24 (o25 + (y3_1).toNat * 1) [.slice A31 el19.length cp32], RE.rd k_Handle A31 cp32 el19, RE.cells g73 (o74 + (y3_1).toNat * 1) [.slice A80 el68.length cp81], RE.rd k_Handle A80 cp81 el68] := Sep.also H (re := RE.rd k_Handle A80 cp81 el68) hR83
          refine RL_p (x_indexAddr sl77 sz87 (by rfl) (by rfl) hA72 h69 h70) ?_
          refine RL_p (x_load (j := 0) (v := .slice A80 el68.length cp81) sc87 (by rfl) (H.cellsR (i := 4) (by rfl)) (by rfl)) ?_
          refine RL_p (x_len sl87 (by rfl)) ?_
          refine RL_p (x_lss (by rfl) (by rfl)) ?_
          refine RL_nil ?_
          refine W_cond (by rfl) (fun hb => ?_) (fun hb => ?_)
          ·have hm := cond_t hb hm
           refine W_skip ?_
           refine W_seq ?_
           refine W_block ?_
           refine W_seq ?_
           obtain ⟨el85, h86, h87, he88, hm⟩ := idx_some hm
           obtain ⟨g90, o91, hA89⟩ := (H.rd (i := 1) (by rfl)).addr he88
           obtain ⟨cs92, hk93, hat94, hg_cs92⟩ := (H.rd (i := 1) (by rfl)).openAt hA89 he88
           obtain ⟨A97, cp98, rfl, hR100⟩ := hk93
           have H : Sep ok w w67 [GRB b9 A1 cp2 A5 cp6 a0] [RDS A1 cp2 a0, RDK A5 cp6 a0, RE.cells g24 (o25 + (y3_1).toNat * 1) [.slice A31 el19.length cp32], RE.rd k_Handle A31 cp32 el19, RE.cells g73 (o74 + (y3_1).toNat * 1) [.slice A80 el68.length cp81], RE.rd k_Handle A80 cp81 el68, RE.cells g90 (o91 + (y3_1).toNat * 1) [.slice A97 el85.length cp98]] := Sep.also H (re := RE.cells g90 (o91 + (y3_1).toNat * 1) [.slice A97 el85.length cp98]) ⟨hg_cs92, hat94⟩
           have H : Sep ok w w67 [GRB b9 A1 cp2 A5 cp6 a0] [RDS A1 cp2 a0, RDK A5 cp6 a0, RE.cells g24 (o25 + (y3_1).toNat * 1) [.slice A31 el19.length cp32], RE.rd k_Handle A31 cp32 el19, RE.cells g73 (o74 + (y3_1).toNat * 1) [.slice A80 el68.length cp81], RE.rd k_Handle A80 cp81 el68, RE.cells g90 (o91 + (y3_1).toNat * 1) [.slice A97 el85.length cp98], RE.rd k_Handle A97 cp98 el85] := Sep.also H (re := RE.rd k_Handle A97 cp98 el85) hR100
           obtain ⟨el102, h103, h104, he105, hm⟩ := idx_some hm
           obtain ⟨g107, o108, hA106⟩ := (H.rd (i := 7) (by rfl)).addr he105
           refine W_draw [.free 0, .take 1, .free 2, .take 3, .free 4, .free 5, .take 6, .free 7, .free 8, .take 9, .run 10, .free 11] (fun wS => Sep ok w wS [GRB b9 A1 cp2 A5 cp6 a0] [RDS A1 cp2 a0, RDK A5 cp6 a0, RE.cells g24 (o25 + (y3_1).toNat * 1) [.slice A31 el19.length cp32], RE.rd k_Handle A31 cp32 el19, RE.cells g73 (o74 + (y3_1).toNat * 1) [.slice A80 el68.length cp81], RE.rd k_Handle A80 cp81 el68, RE.cells g90 (o91 + (y3_1).toNat * 1) [.slice A97 el85.length cp98], RE.rd k_Handle A97 cp98 el85]) [] [0, 2, 4, 5, 7, 8, 11] mixed0 (by kernel_rfl) (by kernel_rfl) (by kernel_rfl) (by rfl) (by exact H.drew) ?_
           obtain ⟨w109, hW⟩ : ∃ W : World, W = { w67 with drawn := w67.drawn + 1 } := ⟨_, rfl⟩
           rw [← hW]
           have H : Sep ok w w109 [GRB b9 A1 cp2 A5 cp6 a0] [RDS A1 cp2 a0, RDK A5 cp6 a0, RE.cells g24 (o25 + (y3_1).toNat * 1) [.slice A31 el19.length cp32], RE.rd k_Handle A31 cp32 el19, RE.cells g73 (o74 + (y3_1).toNat * 1) [.slice A80 el68.length cp81], RE.rd k_Handle A80 cp81 el68, RE.cells g90 (o91 + (y3_1).toNat * 1) [.slice A97 el85.length cp98], RE.rd k_Handle A97 cp98 el85] := by rw [hW]; exact H.drew
           clear hW
           refine PR_free (by rfl) (by rfl) (by rfl) (by exact wn0 rfl) (fun wS => (x_fieldAddr fo79_0 (by rfl))) ?_
           refine PR_take (by rfl) (by rfl) (by rfl) (by exact wn0 rfl) (fun wS (H : Sep ok w wS [GRB b9 A1 cp2 A5 cp6 a0] [RDS A1 cp2 a0, RDK A5 cp6 a0, RE.cells g24 (o25 + (y3_1).toNat * 1) [.slice A31 el19.length cp32], RE.rd k_Handle A31 cp32 el19, RE.cells g73 (o74 + (y3_1).toNat * 1) [.slice A80 el68.length cp81], RE.rd k_Handle A80 cp81 el68, RE.cells g90 (o91 + (y3_1).toNat * 1) [.slice A97 el85.length cp98], RE.rd k_Handle A97 cp98 el85]) => (x_loadA (j := 0) (vs := [.slice A1 a0.Arena.Slots.length cp2]) ag76 (by rfl) (H.cells (i := 0) (by rfl)) (by rfl) (by rfl))) ?_
           refine PR_free (by rfl) (by rfl) (by rfl) (by exact wn0 rfl) (fun wS => (x_fieldAddr fo79_1 (by rfl))) ?_
           refine PR_take (by rfl) (by rfl) (by rfl) (by exact wn0 rfl) (fun wS (H : Sep ok w wS [GRB b9 A1 cp2 A5 cp6 a0] [RDS A1 cp2 a0, RDK A5 cp6 a0, RE.cells g24 (o25 + (y3_1).toNat * 1) [.slice A31 el19.length cp32], RE.rd k_Handle A31 cp32 el19, RE.cells g73 (o74 + (y3_1).toNat * 1) [.slice A80 el68.length cp81], RE.rd k_Handle A80 cp81 el68, RE.cells g90 (o91 + (y3_1).toNat * 1) [.slice A97 el85.length cp98], RE.rd k_Handle A97 cp98 el85]) => (x_load (j := 1) (v := .slice A5 a0.Kids.length cp6) sc77 (by rfl) (H.cells (i := 0) (by rfl)) (by rfl))) ?_
           refine PR_free (by rfl) (by rfl) (by rfl) (by exact wn0 rfl) (fun wS => (x_move (v := .int .i64 y3_1) (by rfl))) ?_
           refine PR_free (by rfl) (by rfl) (by rfl) (by exact wn0 rfl) (fun wS => (x_indexAddr sl77 sz87 (by rfl) (by rfl) hA89 h86 h87)) ?_
           refine PR_take (by rfl) (by rfl) (by rfl) (by exact wn0 rfl) (fun wS (H : Sep ok w wS [GRB b9 A1 cp2 A5 cp6 a0] [RDS A1 cp2 a0, RDK A5 cp6 a0, RE.cells g24 (o25 + (y3_1).toNat * 1) [.slice A31 el19.length cp32], RE.rd k_Handle A31 cp32 el19, RE.cells g73 (o74 + (y3_1).toNat * 1) [.slice A80 el68.length cp81], RE.rd k_Handle A80 cp81 el68, RE.cells g90 (o91 + (y3_1).toNat * 1) [.slice A97 el85.length cp98], RE.rd k_Handle A97 cp98 el85]) => (x_load (j := 0) (v := .slice A97 el85.length cp98) sc87 (by rfl) (H.cellsR (i := 6) (by rfl)) (by rfl))) ?_
           refine PR_free (by rfl) (by rfl) (by rfl) (by exact wn0 rfl) (fun wS => (x_move (v := .int .i64 y4_2) (by rfl))) ?_
           refine PR_free (by rfl) (by rfl) (by rfl) (by exact wn0 rfl) (fun wS => (x_indexAddr sl87 sz81 (by rfl) (by rfl) hA106 h103 h104)) ?_
           refine PR_take (by rfl) (by rfl) (by rfl) (by exact wn0 rfl) (fun wS (H : Sep ok w wS [GRB b9 A1 cp2 A5 cp6 a0] [RDS A1 cp2 a0, RDK A5 cp6 a0, RE.cells g24 (o25 + (y3_1).toNat * 1) [.slice A31 el19.length cp32], RE.rd k_Handle A31 cp32 el19, RE.cells g73 (o74 + (y3_1).toNat * 1) [.slice A80 el68.length cp81], RE.rd k_Handle A80 cp81 el68, RE.cells g90 (o91 + (y3_1).toNat * 1) [.slice A97 el85.length cp98], RE.rd k_Handle A97 cp98 el85]) => (x_loadA (j := 0) (vs := [.int .i64 el102.Slot, .int .i64 el102.Gen]) ag81 (by rfl) (Rd.flatAt (n := 2) (H.rd (i := 7) (by rfl)) hA106 he105) (by rfl) (by rfl))) ?_
           obtain ⟨v111, hv110, hm⟩ := bind_some hm
           refine PR_run (by rfl) (O_call (by exact wn0 rfl) (by rfl) (by rfl) (x_callL (by rfl) (args := [.agg #[.slice A1 a0.Arena.Slots.length cp2], .agg #[.int .i64 el102.Slot, .int .i64 el102.Gen]]) (by rfl) (cf128 _ _)) (c128 okT K w109 a0.Arena A1 cp2 el102 (H.rd (i := 0) (by rfl)).any v111 hv110) ?_)
           rintro e w112 ⟨rfl, H2⟩
           have H : Sep ok w w112 [GRB b9 A1 cp2 A5 cp6 a0] [RDS A1 cp2 a0, RDK A5 cp6 a0, RE.cells g24 (o25 + (y3_1).toNat * 1) [.slice A31 el19.length cp32], RE.rd k_Handle A31 cp32 el19, RE.cells g73 (o74 + (y3_1).toNat * 1) [.slice A80 el68.length cp81], RE.rd k_Handle A80 cp81 el68, RE.cells g90 (o91 + (y3_1).toNat * 1) [.slice A97 el85.length cp98], RE.rd k_Handle A97 cp98 el85] := H.below H2.base
           clear H2
           refine ⟨_, rfl, H, ?_⟩
           show PR _ _ _ _ _ _ _ _
           refine PR_free (by rfl) (by rfl) (by rfl) (by exact wn0 rfl) (fun wS => (x_not (by rfl))) ?_
           refine PR_nil ?_
           refine W_cond (by rfl) (fun hb => ?_) (fun hb => ?_)
           ·have hm := cond_t hb hm
            refine W_seq ?_
            refine W_region ?_
            refine RL_p (x_assign (v := .bool false) (by rfl)) ?_
            refine RL_nil ?_
            refine W_ret ?_
            obtain rfl := Option.some.inj hm
            exact ⟨[.bool false], (.tmp (by rfl) rfl), rfl, H.none_⟩
           ·have hm := cond_f hb hm
            refine W_skip ?_
            refine W_region ?_
            refine RL_p (x_move (v := .int .i64 y4_2) (by rfl)) ?_
            obtain ⟨x113, ex113, qx113, ux113, hm⟩ := ck_some hm
            refine RL_p (x_add (by rfl) (by rfl) ux113) ?_
            refine RL_p (x_assign (v := .int .i64 x113) (by rfl)) ?_
            refine RL_nil ?_
            subst hrec2
            exact ⟨k2, Nat.lt_succ_self k2, x113, hm, ⟨rfl, rfl, rfl, trivial⟩, (H).pick [0, 1, 2, 3]⟩
          ·have hm := cond_f hb hm
           refine W_exit ?_
           refine W_region ?_
           refine RL_p (x_move (v := .int .i64 y3_1) (by rfl)) ?_
           obtain ⟨x114, ex114, qx114, ux114, hm⟩ := ck_some hm
           refine RL_p (x_add (by rfl) (by rfl) ux114) ?_
           refine RL_p (x_assign (v := .int .i64 x114) (by rfl)) ?_
           refine RL_nil ?_
           subst hrec1
           exact ⟨k1, Nat.lt_succ_self k1, x114, hm, ⟨rfl, rfl, trivial⟩, (H).pick [0, 1]⟩
     ·have hm := cond_f hb hm
      refine W_exit ?_
      refine W_seq ?_
      refine W_region ?_
      refine RL_p (x_loadA (j := 0) (vs := [.slice A1 a0.Arena.Slots.length cp2, .slice A5 a0.Kids.length cp6]) ag79 (by rfl) (H.cells (i := 0) (by rfl)) (by rfl) (by rfl)) ?_
      obtain ⟨v116, hv115, hm⟩ := bind_some hm
      refine RL_cons (O_call (by exact wn0 rfl) (by rfl) (by rfl) (x_callL (by rfl) (args := [.agg #[.slice A1 a0.Arena.Slots.length cp2, .slice A5 a0.Kids.length cp6]]) (by rfl) (cf129 _ _)) (c129 okT K w18 a0 A1 cp2 A5 cp6 (H.rd (i := 0) (by rfl)).any (H.rd (i := 1) (by rfl)).any v116 hv115) ?_)
      rintro e w117 ⟨rfl, H2⟩
      have H : Sep ok w w117 [GRB b9 A1 cp2 A5 cp6 a0] [RDS A1 cp2 a0, RDK A5 cp6 a0] := H.below H2.base
      clear H2
      refine ⟨_, rfl, ?_⟩
      show RL _ _ _ _ _ _ _
      refine RL_p (x_assign (v := .bool v116) (by rfl)) ?_
      refine RL_nil ?_
      refine W_ret ?_
      obtain rfl := Option.some.inj hm
      exact ⟨[.bool v116], (.tmp (by rfl) rfl), rfl, H.none_⟩
end Go.Proofs.YtobkigllalbkiaaV.M

/- A plain Lean function that answers as the Go function does (none: not told), and the proof that a call answers so. Written by program. -/
set_option linter.unusedVariables false
namespace Go.Proofs.YtobkigllalbkiaaV.M
open Go.RowKit Go.Proofs.YtobkigllalbkiaaV
/-- diorama/dioramaref06.asked -/
def m98 (K : Nat) (a0 : S_Graph) (a1 : S_Handle) (a2 : S_Handle) : Option (Int) :=
 ((m96 K a0).bind fun v16 => (bif (!v16) then some 8 else ((m128 K a0.Arena a1).bind fun v19 => ((bif (!v19) then some true else ((m128 K a0.Arena a2).bind fun v23 => some (!v23))).bind fun b21 => (bif b21 then some 50 else some 0)))))
set_option maxRecDepth 100000 in
set_option maxHeartbeats 4000000 in
theorem c98 (ok : Okp) (K : Nat) (w : World) (a0 : S_Graph) (A1 : Option Addr) (cp2 : Nat) (A5 : Option Addr) (cp6 : Nat) (a1 : S_Handle) (a2 : S_Handle) (hR3 : Rd k_Slot w ok A1 cp2 a0.Arena.Slots) (hR7 : Rd (Kd.slice k_Handle) w ok A5 cp6 a0.Kids) (res : Int) (hm : m98 K a0 a1 a2 = some res) :
  Calls Try.prog 98 #[.agg #[.slice A1 a0.Arena.Slots.length cp2, .slice A5 a0.Kids.length cp6], .agg #[.int .i64 a1.Slot, .int .i64 a1.Gen], .agg #[.int .i64 a2.Slot, .int .i64 a2.Gen]] w (fun e w' => e = .returned (tup [.int .i64 res]) ∧ Sep ok w w' [] []) := by
 refine calls_W (args := [.agg #[.slice A1 a0.Arena.Slots.length cp2, .slice A5 a0.Kids.length cp6], .agg #[.int .i64 a1.Slot, .int .i64 a1.Gen], .agg #[.int .i64 a2.Slot, .int .i64 a2.Gen]]) Try.func98 rfl Try.ntmps98 Try.results98 rfl fun r hr => ?_
 obtain ⟨r1, rfl⟩ := regen (r := r) [(0, .agg #[.slice A1 a0.Arena.Slots.length cp2, .slice A5 a0.Kids.length cp6]), (1, .agg #[.int .i64 a1.Slot, .int .i64 a1.Gen]), (2, .agg #[.int .i64 a2.Slot, .int .i64 a2.Gen])] ⟨hr 0 _ rfl, hr 1 _ rfl, hr 2 _ rfl, trivial⟩
 have H : Sep ok w w [] [RDS A1 cp2 a0, RDK A5 cp6 a0] := Sep.arg (Sep.arg (Sep.start ok w) (re := RE.rd k_Slot A1 cp2 a0.Arena.Slots) rfl rfl hR3) (re := RE.rd (Kd.slice k_Handle) A5 cp6 a0.Kids) rfl rfl hR7
 unfold m98 at hm
 refine W_seq ?_
 refine W_region ?_
 refine RL_cons (O_box (by exact wn0 rfl) (by rfl) (by rfl) (by rfl) H (fun w10 b9 (H : Sep ok w w10 [GRB b9 A1 cp2 A5 cp6 a0] [RDS A1 cp2 a0, RDK A5 cp6 a0]) => ?_))
 refine RL_cons (O_box (by exact wn0 rfl) (by rfl) (by rfl) (by rfl) H (fun w12 b11 (H : Sep ok w w12 [GRB b9 A1 cp2 A5 cp6 a0, HNB b11 a1] [RDS A1 cp2 a0, RDK A5 cp6 a0]) => ?_))
 refine RL_cons (O_box (by exact wn0 rfl) (by rfl) (by rfl) (by rfl) H (fun w14 b13 (H : Sep ok w w14 [GRB b9 A1 cp2 A5 cp6 a0, HNB b11 a1, HNB b13 a2] [RDS A1 cp2 a0, RDK A5 cp6 a0]) => ?_))
 refine RL_p (x_assign (v := .int .i64 0) (by rfl)) ?_
 refine RL_nil ?_
 refine W_seq ?_
 refine W_seq ?_
 refine W_region ?_
 refine RL_p (x_loadA (j := 0) (vs := [.slice A1 a0.Arena.Slots.length cp2, .slice A5 a0.Kids.length cp6]) ag79 (by rfl) (H.cells (i := 0) (by rfl)) (by rfl) (by rfl)) ?_
 obtain ⟨v16, hv15, hm⟩ := bind_some hm
 refine RL_cons (O_call (by exact wn0 rfl) (by rfl) (by rfl) (x_callL (by rfl) (args := [.agg #[.slice A1 a0.Arena.Slots.length cp2, .slice A5 a0.Kids.length cp6]]) (by rfl) (cf96 _ _)) (c96 okT K w14 a0 A1 cp2 A5 cp6 (H.rd (i := 0) (by rfl)).any (H.rd (i := 1) (by rfl)).any v16 hv15) ?_)
 rintro e w17 ⟨rfl, H2⟩
 have H : Sep ok w w17 [GRB b9 A1 cp2 A5 cp6 a0, HNB b11 a1, HNB b13 a2] [RDS A1 cp2 a0, RDK A5 cp6 a0] := H.below H2.base
 clear H2
 refine ⟨_, rfl, ?_⟩
 show RL _ _ _ _ _ _ _
 refine RL_p (x_not (by rfl)) ?_
 refine RL_nil ?_
 refine W_cond (by rfl) (fun hb => ?_) (fun hb => ?_)
 ·have hm := cond_t hb hm
  refine W_seq ?_
  refine W_region ?_
  refine RL_p (x_assign (v := .int .i64 8) (by rfl)) ?_
  refine RL_nil ?_
  refine W_ret ?_
  obtain rfl := Option.some.inj hm
  exact ⟨[.int .i64 8], (.tmp (by rfl) rfl), rfl, H.none_⟩
 ·have hm := cond_f hb hm
  refine W_skip ?_
  refine W_seq ?_
  refine W_seq ?_
  refine W_region ?_
  refine RL_p (x_fieldAddr fo79_0 (by rfl)) ?_
  refine RL_p (x_loadA (j := 0) (vs := [.slice A1 a0.Arena.Slots.length cp2]) ag76 (by rfl) (H.cells (i := 0) (by rfl)) (by rfl) (by rfl)) ?_
  refine RL_p (x_loadA (j := 0) (vs := [.int .i64 a1.Slot, .int .i64 a1.Gen]) ag81 (by rfl) (H.cells (i := 1) (by rfl)) (by rfl) (by rfl)) ?_
  obtain ⟨v19, hv18, hm⟩ := bind_some hm
  refine RL_cons (O_call (by exact wn0 rfl) (by rfl) (by rfl) (x_callL (by rfl) (args := [.agg #[.slice A1 a0.Arena.Slots.length cp2], .agg #[.int .i64 a1.Slot, .int .i64 a1.Gen]]) (by rfl) (cf128 _ _)) (c128 okT K w17 a0.Arena A1 cp2 a1 (H.rd (i := 0) (by rfl)).any v19 hv18) ?_)
  rintro e w20 ⟨rfl, H2⟩
  have H : Sep ok w w20 [GRB b9 A1 cp2 A5 cp6 a0, HNB b11 a1, HNB b13 a2] [RDS A1 cp2 a0, RDK A5 cp6 a0] := H.below H2.base
  clear H2
  refine ⟨_, rfl, ?_⟩
  show RL _ _ _ _ _ _ _
  refine RL_p (x_not (by rfl)) ?_
  refine RL_p (x_move (v := .bool (!v19)) (by rfl)) ?_
  obtain ⟨b21, hmS, hm⟩ := bind_some hm
  refine RL_cut 6 (fun r' w' => Agr [(21, .bool b21)] r' ∧ Sep ok w w' [GRB b9 A1 cp2 A5 cp6 a0, HNB b11 a1, HNB b13 a2] [RDS A1 cp2 a0, RDK A5 cp6 a0]) ?_ ?_
  ·cases hbS : (!v19)
   ·have hm := cond_f hbS hmS
    refine RL_pure (by exact wn1 rfl rfl rfl rfl) (by rfl) (by rfl) (x_fieldAddr fo79_0 (by rfl)) ?_
    refine RL_pure (by exact wn1 rfl rfl rfl rfl) (by rfl) (by rfl) (x_loadA (j := 0) (vs := [.slice A1 a0.Arena.Slots.length cp2]) ag76 (by rfl) (H.cells (i := 0) (by rfl)) (by rfl) (by rfl)) ?_
    refine RL_pure (by exact wn1 rfl rfl rfl rfl) (by rfl) (by rfl) (x_loadA (j := 0) (vs := [.int .i64 a2.Slot, .int .i64 a2.Gen]) ag81 (by rfl) (H.cells (i := 2) (by rfl)) (by rfl) (by rfl)) ?_
    obtain ⟨v23, hv22, hm⟩ := bind_some hm
    refine RL_cons (O_call (by exact wn1 rfl rfl rfl rfl) (by rfl) (by rfl) (x_callL (by rfl) (args := [.agg #[.slice A1 a0.Arena.Slots.length cp2], .agg #[.int .i64 a2.Slot, .int .i64 a2.Gen]]) (by rfl) (cf128 _ _)) (c128 okT K w20 a0.Arena A1 cp2 a2 (H.rd (i := 0) (by rfl)).any v23 hv22) ?_)
    rintro e w24 ⟨rfl, H2⟩
    have H : Sep ok w w24 [GRB b9 A1 cp2 A5 cp6 a0, HNB b11 a1, HNB b13 a2] [RDS A1 cp2 a0, RDK A5 cp6 a0] := H.below H2.base
    clear H2
    refine ⟨_, rfl, ?_⟩
    show RL _ _ _ _ _ _ _
    refine RL_pure (by exact wn1 rfl rfl rfl rfl) (by rfl) (by rfl) (x_not (by rfl)) ?_
    refine RL_p (x_pick_f (v := .bool (!v23)) (by rfl) (by rfl)) ?_
    refine RL_nil ?_
    exact ⟨⟨congrArg Value.bool (Option.some.inj hm), trivial⟩, H⟩
   ·have hm := cond_t hbS hmS
    refine RL_cons (OpR_off (by exact wn2 rfl rfl rfl rfl) (by rfl) (by rfl) ?_)
    refine RL_cons (OpR_off (by exact wn2 rfl rfl rfl rfl) (by rfl) (by rfl) ?_)
    refine RL_cons (OpR_off (by exact wn2 rfl rfl rfl rfl) (by rfl) (by rfl) ?_)
    refine RL_cons (OpR_off (by exact wn2 rfl rfl rfl rfl) (by rfl) (by rfl) ?_)
    refine RL_cons (OpR_off (by exact wn2 rfl rfl rfl rfl) (by rfl) (by rfl) ?_)
    refine RL_p (x_pick_t (v := .bool true) (by rfl) (by rfl)) ?_
    refine RL_nil ?_
    exact ⟨⟨congrArg Value.bool (Option.some.inj hm), trivial⟩, H⟩
  ·rintro r' w' ⟨hA, H⟩
   obtain ⟨r25, rfl⟩ := regen _ hA; clear hA
   obtain ⟨w26, rfl⟩ : ∃ W : World, W = w' := ⟨_, rfl⟩
   show RL _ _ _ _ _ _ _
   refine RL_nil ?_
   refine W_cond (by rfl) (fun hb => ?_) (fun hb => ?_)
   ·have hm := cond_t hb hm
    refine W_seq ?_
    refine W_region ?_
    refine RL_p (x_assign (v := .int .i64 50) (by rfl)) ?_
    refine RL_nil ?_
    refine W_ret ?_
    obtain rfl := Option.some.inj hm
    exact ⟨[.int .i64 50], (.tmp (by rfl) rfl), rfl, H.none_⟩
   ·have hm := cond_f hb hm
    refine W_skip ?_
    refine W_seq ?_
    refine W_region ?_
    refine RL_p (x_assign (v := .int .i64 0) (by rfl)) ?_
    refine RL_nil ?_
    refine W_ret ?_
    obtain rfl := Option.some.inj hm
    exact ⟨[.int .i64 0], (.tmp (by rfl) rfl), rfl, H.none_⟩
end Go.Proofs.YtobkigllalbkiaaV.M

/- A plain Lean function that answers as the Go function does (none: not told), and the proof that a call answers so. Written by program. -/
set_option linter.unusedVariables false
namespace Go.Proofs.YtobkigllalbkiaaV.M
open Go.RowKit Go.Proofs.YtobkigllalbkiaaV
def m101_l3b (K : Nat) (a0 : S_Graph) (y7_2 : Int) (rec2 : (List Bool) → Int → Option ((List Bool))) (rec3 : (List Bool) → Int → Option ((List Bool))) (l_row18_3 : (List Bool)) (y8_3 : Int) : Option ((List Bool)) :=
 (idx a0.Kids y7_2 fun el39 => (bif (decide (y8_3 < (el39.length : Int))) then (idx l_row18_3 y7_2 fun el56 => (bif el56 then (idx a0.Kids y7_2 fun el63 => (idx el63 y8_3 fun el80 => (idx l_row18_3 el80.Slot fun el87 => (lete (l_row18_3.set ((el80.Slot).toNat) true) fun l96 => (ck (y8_3 + 1) fun x100 => (rec3 l96 x100)))))) else (ck (y8_3 + 1) fun x101 => (rec3 l_row18_3 x101)))) else (ck (y7_2 + 1) fun x102 => (rec2 l_row18_3 x102))))
def m101_l3 (K : Nat) (a0 : S_Graph) (y7_2 : Int) (rec2 : (List Bool) → Int → Option ((List Bool))) : Nat → (List Bool) → Int → Option ((List Bool))
 | 0 => fun _ _ => none
 | k + 1 => m101_l3b K a0 y7_2 rec2 (m101_l3 K a0 y7_2 rec2 k)
def m101_l2b (K : Nat) (a0 : S_Graph) (y6_1 : Int) (rec1 : (List Bool) → Int → Option ((List Bool))) (rec2 : (List Bool) → Int → Option ((List Bool))) (l_row18_2 : (List Bool)) (y7_2 : Int) : Option ((List Bool)) :=
 (bif (decide (y7_2 < (a0.Kids.length : Int))) then m101_l3 K a0 y7_2 rec2 K l_row18_2 0 else (ck (y6_1 + 1) fun x103 => (rec1 l_row18_2 x103)))
def m101_l2 (K : Nat) (a0 : S_Graph) (y6_1 : Int) (rec1 : (List Bool) → Int → Option ((List Bool))) : Nat → (List Bool) → Int → Option ((List Bool))
 | 0 => fun _ _ => none
 | k + 1 => m101_l2b K a0 y6_1 rec1 (m101_l2 K a0 y6_1 rec1 k)
def m101_l1b (K : Nat) (a0 : S_Graph) (rec1 : (List Bool) → Int → Option ((List Bool))) (l_row18_1 : (List Bool)) (y6_1 : Int) : Option ((List Bool)) :=
 (bif (decide (y6_1 < (a0.Kids.length : Int))) then m101_l2 K a0 y6_1 rec1 K l_row18_1 0 else some l_row18_1)
def m101_l1 (K : Nat) (a0 : S_Graph) : Nat → (List Bool) → Int → Option ((List Bool))
 | 0 => fun _ _ => none
 | k + 1 => m101_l1b K a0 (m101_l1 K a0 k)
/-- diorama/dioramaref06.Below -/
def m101 (K : Nat) (a0 : S_Graph) (a1 : Int) : Option ((List Bool)) :=
 (mks 1 (a0.Kids.length : Int) false fun l14 => (idx l14 a1 fun el20 => (lete (l14.set ((a1).toNat) true) fun l29 => m101_l1 K a0 K l29 0)))
set_option maxRecDepth 100000 in
set_option maxHeartbeats 4000000 in
theorem c101 (ok : Okp) (K : Nat) (w : World) (a0 : S_Graph) (A1 : Option Addr) (cp2 : Nat) (A5 : Option Addr) (cp6 : Nat) (a1 : Int) (hR3 : Rd k_Slot w ok A1 cp2 a0.Arena.Slots) (hR7 : Rd (Kd.slice k_Handle) w ok A5 cp6 a0.Kids) (res : (List Bool)) (hm : m101 K a0 a1 = some res) :
  Calls Try.prog 101 #[.agg #[.slice A1 a0.Arena.Slots.length cp2, .slice A5 a0.Kids.length cp6], .int .i64 a1] w (fun e w' => ∃ (A0_ : Option Addr) (c0_ : Nat), e = .returned (tup [.slice A0_ res.length c0_]) ∧ Sep ok w w' [] [RE.rd kBool A0_ c0_ res]) := by
 refine calls_W (args := [.agg #[.slice A1 a0.Arena.Slots.length cp2, .slice A5 a0.Kids.length cp6], .int .i64 a1]) Try.func101 rfl Try.ntmps101 Try.results101 rfl fun r hr => ?_
 obtain ⟨r1, rfl⟩ := regen (r := r) [(0, .agg #[.slice A1 a0.Arena.Slots.length cp2, .slice A5 a0.Kids.length cp6]), (1, .int .i64 a1)] ⟨hr 0 _ rfl, hr 1 _ rfl, trivial⟩
 have H : Sep ok w w [] [RDS A1 cp2 a0, RDK A5 cp6 a0] := Sep.arg (Sep.arg (Sep.start ok w) (re := RE.rd k_Slot A1 cp2 a0.Arena.Slots) rfl rfl hR3) (re := RE.rd (Kd.slice k_Handle) A5 cp6 a0.Kids) rfl rfl hR7
 unfold m101 at hm
 refine W_seq ?_
 refine W_region ?_
 refine RL_cons (O_box (by exact wn0 rfl) (by rfl) (by rfl) (by rfl) H (fun w10 b9 (H : Sep ok w w10 [GRB b9 A1 cp2 A5 cp6 a0] [RDS A1 cp2 a0, RDK A5 cp6 a0]) => ?_))
 refine RL_p (x_assign (v := .slice none 0 0) (by rfl)) ?_
 refine RL_nil ?_
 refine W_seq ?_
 refine W_region ?_
 refine RL_p (x_fieldAddr fo79_1 (by rfl)) ?_
 refine RL_p (x_load (j := 1) (v := .slice A5 a0.Kids.length cp6) sc77 (by rfl) (H.cells (i := 0) (by rfl)) (by rfl)) ?_
 refine RL_p (x_len sl77 (by rfl)) ?_
 obtain ⟨l14, h16, hl15, hb17, hm⟩ := mks_some hm
 refine RL_cons (O_makeSlice (D := kBool) (x0 := false) (by exact wn0 rfl) (by rfl) (by rfl) (by rfl) sl155 sz4 by4 ze4 (by rfl) (by intro w ok; exact rfl) h16 hl15 hb17 H (by rfl) (fun w11 b12 cs13 (H : Sep ok w w11 [GRB b9 A1 cp2 A5 cp6 a0, .row (.slice (some ⟨b12, 0, none⟩) l14.length l14.length) 4 kBool.sz l14.length cs13] [RDS A1 cp2 a0, RDK A5 cp6 a0, RE.chunks kBool cs13 l14]) => ?_))
 refine RL_p (x_assign (v := .slice (some ⟨b12, 0, none⟩) l14.length l14.length) (by rfl)) ?_
 refine RL_nil ?_
 refine W_seq ?_
 refine W_region ?_
 refine RL_p (x_move (v := .slice (some ⟨b12, 0, none⟩) l14.length l14.length) (by rfl)) ?_
 refine RL_p (x_move (v := .int .i64 a1) (by rfl)) ?_
 obtain ⟨el20, h21, h22, he23, hm⟩ := idx_some hm
 obtain ⟨g25, _, hA24, _, _⟩ := H.rowIdx (i := 1) (j := 2) (by rfl) (by rfl) he23
 refine RL_p (x_indexAddr sl155 sz4 (by rfl) (by rfl) hA24 h21 h22) ?_
 obtain ⟨l29, hl30, hm⟩ := lete_some hm
 refine RL_cons (O_storeRow (D := kBool) (i := 1) (j := 2) (off := 0) (m := a1) (a := el20) (b := true) (vs := [.bool true]) (by exact wn0 rfl) H (by rfl) (by rfl) hA24 (by rfl) (by rfl) he23 (by rfl) sz4 (by rfl) (by rfl) (by intro ce hce; obtain rfl := hce; rfl) hl30 (fun w27 cs28 (H : Sep ok w w27 [GRB b9 A1 cp2 A5 cp6 a0, .row (.slice (some ⟨b12, 0, none⟩) l29.length l14.length) 4 kBool.sz l29.length cs28] [RDS A1 cp2 a0, RDK A5 cp6 a0, RE.chunks kBool cs28 l29]) => ?_))
 refine RL_nil ?_
 have hn31 : l14.length = l29.length := by rw [← hl30]; exact (List.length_set ..).symm
 have H : Sep ok w w27 [GRB b9 A1 cp2 A5 cp6 a0, .row (.slice (some ⟨b12, 0, none⟩) l29.length l29.length) 4 kBool.sz l29.length cs28] [RDS A1 cp2 a0, RDK A5 cp6 a0, RE.chunks kBool cs28 l29] := by (try rw [hn31] at H); exact H
 refine W_regen (l := [(2, .pointer (some ⟨b9, 0, none⟩)), (5, .slice (some ⟨b12, 0, none⟩) l29.length l29.length)]) ⟨rfl, (by (try rw [← hn31]); rfl), trivial⟩ fun r32 => ?_
 refine W_seq ?_
 refine W_seq ?_
 refine W_region ?_
 refine RL_p (x_assign (v := .int .i64 0) (by rfl)) ?_
 refine RL_nil ?_
 refine W_block ?_
 refine W_loop (fun k1 r' w' => ∃ (l_row18_1 : (List Bool)), ∃ (y6_1 : Int), ∃ (A_row18_1 : Option Addr), ∃ (c_row18_1 : Nat), ∃ (cs_row18_1 : List Value), m101_l1 K a0 k1 l_row18_1 y6_1 = some res ∧ Agr [(2, .pointer (some ⟨b9, 0, none⟩)), (5, .slice A_row18_1 l_row18_1.length c_row18_1), (6, .int .i64 y6_1)] r' ∧ Sep ok w w' [GRB b9 A1 cp2 A5 cp6 a0, .row (.slice A_row18_1 l_row18_1.length c_row18_1) 4 kBool.sz l_row18_1.length cs_row18_1] [RDS A1 cp2 a0, RDK A5 cp6 a0, RE.chunks kBool cs_row18_1 l_row18_1]) K ?_ ?_
 ·exact ⟨l29, 0, (some ⟨b12, 0, none⟩), l29.length, cs28, hm, ⟨rfl, rfl, rfl, trivial⟩, H⟩
 ·rintro k1 r' w' ⟨l_row18_1, y6_1, A_row18_1, c_row18_1, cs_row18_1, hm, hA, H⟩
  obtain ⟨r33, rfl⟩ := regen _ hA; clear hA
  obtain ⟨w34, rfl⟩ : ∃ W : World, W = w' := ⟨_, rfl⟩
  cases k1 with
  | zero => exact (none_some hm).elim
  | succ k1 =>
   have hm : m101_l1b K a0 (m101_l1 K a0 k1) l_row18_1 y6_1 = some res := hm
   unfold m101_l1b at hm
   obtain ⟨rec1, hrec1⟩ : ∃ f, m101_l1 K a0 k1 = f := ⟨_, rfl⟩
   rw [hrec1] at hm
   refine W_seq ?_
   refine W_seq ?_
   refine W_region ?_
   refine RL_p (x_move (v := .int .i64 y6_1) (by rfl)) ?_
   refine RL_p (x_fieldAddr fo79_1 (by rfl)) ?_
   refine RL_p (x_load (j := 1) (v := .slice A5 a0.Kids.length cp6) sc77 (by rfl) (H.cells (i := 0) (by rfl)) (by rfl)) ?_
   refine RL_p (x_len sl77 (by rfl)) ?_
   refine RL_p (x_lss (by rfl) (by rfl)) ?_
   refine RL_nil ?_
   refine W_cond (by rfl) (fun hb => ?_) (fun hb => ?_)
   ·have hm := cond_t hb hm
    refine W_skip ?_
    refine W_seq ?_
    refine W_block ?_
    refine W_seq ?_
    refine W_region ?_
    refine RL_p (x_assign (v := .int .i64 0) (by rfl)) ?_
    refine RL_nil ?_
    refine W_block ?_
    refine W_loop (fun k2 r' w' => ∃ (l_row18_2 : (List Bool)), ∃ (y7_2 : Int), ∃ (A_row18_2 : Option Addr), ∃ (c_row18_2 : Nat), ∃ (cs_row18_2 : List Value), m101_l2 K a0 y6_1 rec1 k2 l_row18_2 y7_2 = some res ∧ Agr [(2, .pointer (some ⟨b9, 0, none⟩)), (5, .slice A_row18_2 l_row18_2.length c_row18_2), (6, .int .i64 y6_1), (7, .int .i64 y7_2)] r' ∧ Sep ok w w' [GRB b9 A1 cp2 A5 cp6 a0, .row (.slice A_row18_2 l_row18_2.length c_row18_2) 4 kBool.sz l_row18_2.length cs_row18_2] [RDS A1 cp2 a0, RDK A5 cp6 a0, RE.chunks kBool cs_row18_2 l_row18_2]) K ?_ ?_
    ·exact ⟨l_row18_1, 0, A_row18_1, c_row18_1, cs_row18_1, hm, ⟨rfl, rfl, rfl, rfl, trivial⟩, H⟩
    ·rintro k2 r' w' ⟨l_row18_2, y7_2, A_row18_2, c_row18_2, cs_row18_2, hm, hA, H⟩
     obtain ⟨r35, rfl⟩ := regen _ hA; clear hA
     obtain ⟨w36, rfl⟩ : ∃ W : World, W = w' := ⟨_, rfl⟩
     cases k2 with
     | zero => exact (none_some hm).elim
     | succ k2 =>
      have hm : m101_l2b K a0 y6_1 rec1 (m101_l2 K a0 y6_1 rec1 k2) l_row18_2 y7_2 = some res := hm
      unfold m101_l2b at hm
      obtain ⟨rec2, hrec2⟩ : ∃ f, m101_l2 K a0 y6_1 rec1 k2 = f := ⟨_, rfl⟩
      rw [hrec2] at hm
      refine W_seq ?_
      refine W_seq ?_
      refine W_region ?_
      refine RL_p (x_move (v := .int .i64 y7_2) (by rfl)) ?_
      refine RL_p (x_fieldAddr fo79_1 (by rfl)) ?_
      refine RL_p (x_load (j := 1) (v := .slice A5 a0.Kids.length cp6) sc77 (by rfl) (H.cells (i := 0) (by rfl)) (by rfl)) ?_
      refine RL_p (x_len sl77 (by rfl)) ?_
      refine RL_p (x_lss (by rfl) (by rfl)) ?_
      refine RL_nil ?_
      refine W_cond (by rfl) (fun hb => ?_) (fun hb => ?_)
      ·have hm := cond_t hb hm
       refine W_skip ?_
       refine W_seq ?_
       refine W_block ?_
       refine W_seq ?_
       refine W_region ?_
       refine RL_p (x_assign (v := .int .i64 0) (by rfl)) ?_
       refine RL_nil ?_
       refine W_block ?_
       refine W_loop (fun k3 r' w' => ∃ (l_row18_3 : (List Bool)), ∃ (y8_3 : Int), ∃ (A_row18_3 : Option Addr), ∃ (c_row18_3 : Nat), ∃ (cs_row18_3 : List Value), m101_l3 K a0 y7_2 rec2 k3 l_row18_3 y8_3 = some res ∧ Agr [(2, .pointer (some ⟨b9, 0, none⟩)), (5, .slice A_row18_3 l_row18_3.length c_row18_3), (6, .int .i64 y6_1), (7, .int .i64 y7_2), (8, .int .i64 y8_3)] r' ∧ Sep ok w w' [GRB b9 A1 cp2 A5 cp6 a0, .row (.slice A_row18_3 l_row18_3.length c_row18_3) 4 kBool.sz l_row18_3.length cs_row18_3] [RDS A1 cp2 a0, RDK A5 cp6 a0, RE.chunks kBool cs_row18_3 l_row18_3]) K ?_ ?_
       ·exact ⟨l_row18_2, 0, A_row18_2, c_row18_2, cs_row18_2, hm, ⟨rfl, rfl, rfl, rfl, rfl, trivial⟩, H⟩
       ·rintro k3 r' w' ⟨l_row18_3, y8_3, A_row18_3, c_row18_3, cs_row18_3, hm, hA, H⟩
        obtain ⟨r37, rfl⟩ := regen _ hA; clear hA
        obtain ⟨w38, rfl⟩ : ∃ W : World, W = w' := ⟨_, rfl⟩
        cases k3 with
        | zero => exact (none_some hm).elim
        | succ k3 =>
         have hm : m101_l3b K a0 y7_2 rec2 (m101_l3 K a0 y7_2 rec2 k3) l_row18_3 y8_3 = some res := hm
         unfold m101_l3b at hm
         obtain ⟨rec3, hrec3⟩ : ∃ f, m101_l3 K a0 y7_2 rec2 k3 = f := ⟨_, rfl⟩
         rw [hrec3] at hm
         refine W_seq ?_
         refine W_seq ?_
         refine W_region ?_
         refine RL_p (x_move (v := .int .i64 y8_3) (by rfl)) ?_
         refine RL_p (x_fieldAddr fo79_1 (by rfl)) ?_
         refine RL_p (x_load (j := 1) (v := .slice A5 a0.Kids.length cp6) sc77 (by rfl) (H.cells (i := 0) (by rfl)) (by rfl)) ?_
         refine RL_p (x_move (v := .int .i64 y7_2) (by rfl)) ?_
         obtain ⟨el39, h40, h41, he42, hm⟩ := idx_some hm
         obtain ⟨g44, o45, hA43⟩ := (H.rd (i := 1) (by rfl)).addr he42
         obtain ⟨cs46, hk47, hat48, hg_cs46⟩ := (H.rd (i := 1) (by rfl)).openAt hA43 he42
         obtain ⟨A51, cp52, rfl, hR54⟩ := hk47
         have H : Sep ok w w38 [GRB b9 A1 cp2 A5 cp6 a0, .row (.slice A_row18_3 l_row18_3.length c_row18_3) 4 kBool.sz l_row18_3.length cs_row18_3] [RDS A1 cp2 a0, RDK A5 cp6 a0, RE.chunks kBool cs_row18_3 l_row18_3, RE.cells g44 (o45 + (y7_2).toNat * 1) [.slice A51 el39.length cp52]] := Sep.also H (re := RE.cells g44 (o45 + (y7_2).toNat * 1) [.slice A51 el39.length cp52]) ⟨hg_cs46, hat48⟩
         have H : Sep ok w w38 [GRB b9 A1 cp2 A5 cp6 a0, .row (.slice A_row18_3 l_row18_3.length c_row18_3) 4 kBool.sz l_row18_3.length cs_row18_3] [RDS A1 cp2 a0, RDK A5 cp6 a0, RE.chunks kBool cs_row18_3 l_row18_3, RE.cells g44 (o45 + (y7_2).toNat * 1) [.slice A51 el39.length cp52], RE.rd k_Handle A51 cp52 el39] := Sep.also H (re := RE.rd k_Handle A51 cp52 el39) hR54
         refine RL_p (x_indexAddr sl77 sz87 (by rfl) (by rfl) hA43 h40 h41) ?_
         refine RL_p (x_load (j := 0) (v := .slice A51 el39.length cp52) sc87 (by rfl) (H.cellsR (i := 3) (by rfl)) (by rfl)) ?_
         refine RL_p (x_len sl87 (by rfl)) ?_
         refine RL_p (x_lss (by rfl) (by rfl)) ?_
         refine RL_nil ?_
         refine W_cond (by rfl) (fun hb => ?_) (fun hb => ?_)
         ·have hm := cond_t hb hm
          refine W_skip ?_
          refine W_seq ?_
          refine W_block ?_
          refine W_seq ?_
          refine W_region ?_
          refine RL_p (x_move (v := .slice A_row18_3 l_row18_3.length c_row18_3) (by rfl)) ?_
          refine RL_p (x_move (v := .int .i64 y7_2) (by rfl)) ?_
          obtain ⟨el56, h57, h58, he59, hm⟩ := idx_some hm
          obtain ⟨g61, _, hA60, _, _⟩ := H.rowIdx (i := 1) (j := 2) (by rfl) (by rfl) he59
          refine RL_p (x_indexAddr sl155 sz4 (by rfl) (by rfl) hA60 h57 h58) ?_
          refine RL_p (x_load (j := 0) (v := .bool el56) sc4 (by rfl) (H.rowFlatAt (n := 1) (i := 1) (j := 2) (by rfl) (by rfl) hA60 he59) (by rfl)) ?_
          refine RL_nil ?_
          refine W_cond (by rfl) (fun hb => ?_) (fun hb => ?_)
          ·have hm := cond_t hb hm
           refine W_region ?_
           refine RL_p (x_move (v := .slice A_row18_3 l_row18_3.length c_row18_3) (by rfl)) ?_
           refine RL_p (x_fieldAddr fo79_1 (by rfl)) ?_
           refine RL_p (x_load (j := 1) (v := .slice A5 a0.Kids.length cp6) sc77 (by rfl) (H.cells (i := 0) (by rfl)) (by rfl)) ?_
           refine RL_p (x_move (v := .int .i64 y7_2) (by rfl)) ?_
           obtain ⟨el63, h64, h65, he66, hm⟩ := idx_some hm
           obtain ⟨g68, o69, hA67⟩ := (H.rd (i := 1) (by rfl)).addr he66
           obtain ⟨cs70, hk71, hat72, hg_cs70⟩ := (H.rd (i := 1) (by rfl)).openAt hA67 he66
           obtain ⟨A75, cp76, rfl, hR78⟩ := hk71
           have H : Sep ok w w38 [GRB b9 A1 cp2 A5 cp6 a0, .row (.slice A_row18_3 l_row18_3.length c_row18_3) 4 kBool.sz l_row18_3.length cs_row18_3] [RDS A1 cp2 a0, RDK A5 cp6 a0, RE.chunks kBool cs_row18_3 l_row18_3, RE.cells g44 (o45 + (y7_2).toNat * 1) [.slice A51 el39.length cp52], RE.rd k_Handle A51 cp52 el39, RE.cells g68 (o69 + (y7_2).toNat * 1) [.slice A75 el63.length cp76]] := Sep.also H (re := RE.cells g68 (o69 + (y7_2).toNat * 1) [.slice A75 el63.length cp76]) ⟨hg_cs70, hat72⟩
           have H : Sep ok w w38 [GRB b9 A1 cp2 A5 cp6 a0, .row (.slice A_row18_3 l_row18_3.length c_row18_3) 4 kBool.sz l_row18_3.length cs_row18_3] [RDS A1 cp2 a0, RDK A5 cp6 a0, RE.chunks kBool cs_row18_3 l_row18_3, RE.cells g44 (o45 + (y7_2).toNat * 1) [.slice A51 el39.length cp52], RE.rd k_Handle A51 cp52 el39, RE.cells g68 (o69 + (y7_2).toNat * 1) [.slice A75 el63.length cp76], RE.rd k_Handle A75 cp76 el63] := Sep.also H (re := RE.rd k_Handle A75 cp76 el63) hR78
           refine RL_p (x_indexAddr sl77 sz87 (by rfl) (by rfl) hA67 h64 h65) ?_
           refine RL_p (x_load (j := 0) (v := .slice A75 el63.length cp76) sc87 (by rfl) (H.cellsR (i := 5) (by rfl)) (by rfl)) ?_
           refine RL_p (x_move (v := .int .i64 y8_3) (by rfl)) ?_
           obtain ⟨el80, h81, h82, he83, hm⟩ := idx_some hm
           obtain ⟨g85, o86, hA84⟩ := (H.rd (i := 6) (by rfl)).addr he83
           refine RL_p (x_indexAddr sl87 sz81 (by rfl) (by rfl) hA84 h81 h82) ?_
           refine RL_p (x_fieldAddr fo81_0 (by rfl)) ?_
           refine RL_p (x_load (j := 0) (v := .int .i64 el80.Slot) sc3 (by rfl) (Rd.flatAt (n := 2) (H.rd (i := 6) (by rfl)) hA84 he83) (by rfl)) ?_
           obtain ⟨el87, h88, h89, he90, hm⟩ := idx_some hm
           obtain ⟨g92, _, hA91, _, _⟩ := H.rowIdx (i := 1) (j := 2) (by rfl) (by rfl) he90
           refine RL_p (x_indexAddr sl155 sz4 (by rfl) (by rfl) hA91 h88 h89) ?_
           obtain ⟨l96, hl97, hm⟩ := lete_some hm
           refine RL_cons (O_storeRow (D := kBool) (i := 1) (j := 2) (off := 0) (m := el80.Slot) (a := el87) (b := true) (vs := [.bool true]) (by exact wn0 rfl) H (by rfl) (by rfl) hA91 (by rfl) (by rfl) he90 (by rfl) sz4 (by rfl) (by rfl) (by intro ce hce; obtain rfl := hce; rfl) hl97 (fun w94 cs95 (H : Sep ok w w94 [GRB b9 A1 cp2 A5 cp6 a0, .row (.slice A_row18_3 l96.length c_row18_3) 4 kBool.sz l96.length cs95] [RDS A1 cp2 a0, RDK A5 cp6 a0, RE.chunks kBool cs95 l96, RE.cells g44 (o45 + (y7_2).toNat * 1) [.slice A51 el39.length cp52], RE.rd k_Handle A51 cp52 el39, RE.cells g68 (o69 + (y7_2).toNat * 1) [.slice A75 el63.length cp76], RE.rd k_Handle A75 cp76 el63]) => ?_))
           refine RL_nil ?_
           have hn98 : l_row18_3.length = l96.length := by rw [← hl97]; exact (List.length_set ..).symm
           have H : Sep ok w w94 [GRB b9 A1 cp2 A5 cp6 a0, .row (.slice A_row18_3 l96.length c_row18_3) 4 kBool.sz l96.length cs95] [RDS A1 cp2 a0, RDK A5 cp6 a0, RE.chunks kBool cs95 l96, RE.cells g44 (o45 + (y7_2).toNat * 1) [.slice A51 el39.length cp52], RE.rd k_Handle A51 cp52 el39, RE.cells g68 (o69 + (y7_2).toNat * 1) [.slice A75 el63.length cp76], RE.rd k_Handle A75 cp76 el63] := by (try rw [hn98] at H); exact H
           refine W_regen (l := [(2, .pointer (some ⟨b9, 0, none⟩)), (5, .slice A_row18_3 l96.length c_row18_3), (6, .int .i64 y6_1), (7, .int .i64 y7_2), (8, .int .i64 y8_3)]) ⟨rfl, (by (try rw [← hn98]); rfl), rfl, rfl, rfl, trivial⟩ fun r99 => ?_
           refine W_region ?_
           refine RL_p (x_move (v := .int .i64 y8_3) (by rfl)) ?_
           obtain ⟨x100, ex100, qx100, ux100, hm⟩ := ck_some hm
           refine RL_p (x_add (by rfl) (by rfl) ux100) ?_
           refine RL_p (x_assign (v := .int .i64 x100) (by rfl)) ?_
           refine RL_nil ?_
           subst hrec3
           exact ⟨k3, Nat.lt_succ_self k3, l96, x100, A_row18_3, c_row18_3, cs95, hm, ⟨rfl, rfl, rfl, rfl, rfl, trivial⟩, (H).pick [0, 1, 2]⟩
          ·have hm := cond_f hb hm
           refine W_skip ?_
           refine W_region ?_
           refine RL_p (x_move (v := .int .i64 y8_3) (by rfl)) ?_
           obtain ⟨x101, ex101, qx101, ux101, hm⟩ := ck_some hm
           refine RL_p (x_add (by rfl) (by rfl) ux101) ?_
           refine RL_p (x_assign (v := .int .i64 x101) (by rfl)) ?_
           refine RL_nil ?_
           subst hrec3
           exact ⟨k3, Nat.lt_succ_self k3, l_row18_3, x101, A_row18_3, c_row18_3, cs_row18_3, hm, ⟨rfl, rfl, rfl, rfl, rfl, trivial⟩, (H).pick [0, 1, 2]⟩
         ·have hm := cond_f hb hm
          refine W_exit ?_
          refine W_region ?_
          refine RL_p (x_move (v := .int .i64 y7_2) (by rfl)) ?_
          obtain ⟨x102, ex102, qx102, ux102, hm⟩ := ck_some hm
          refine RL_p (x_add (by rfl) (by rfl) ux102) ?_
          refine RL_p (x_assign (v := .int .i64 x102) (by rfl)) ?_
          refine RL_nil ?_
          subst hrec2
          exact ⟨k2, Nat.lt_succ_self k2, l_row18_3, x102, A_row18_3, c_row18_3, cs_row18_3, hm, ⟨rfl, rfl, rfl, rfl, trivial⟩, (H).pick [0, 1, 2]⟩
      ·have hm := cond_f hb hm
       refine W_exit ?_
       refine W_region ?_
       refine RL_p (x_move (v := .int .i64 y6_1) (by rfl)) ?_
       obtain ⟨x103, ex103, qx103, ux103, hm⟩ := ck_some hm
       refine RL_p (x_add (by rfl) (by rfl) ux103) ?_
       refine RL_p (x_assign (v := .int .i64 x103) (by rfl)) ?_
       refine RL_nil ?_
       subst hrec1
       exact ⟨k1, Nat.lt_succ_self k1, l_row18_2, x103, A_row18_2, c_row18_2, cs_row18_2, hm, ⟨rfl, rfl, rfl, trivial⟩, H⟩
   ·have hm := cond_f hb hm
    refine W_exit ?_
    refine W_seq ?_
    refine W_region ?_
    refine RL_p (x_move (v := .slice A_row18_1 l_row18_1.length c_row18_1) (by rfl)) ?_
    refine RL_p (x_assign (v := .slice A_row18_1 l_row18_1.length c_row18_1) (by rfl)) ?_
    refine RL_nil ?_
    refine W_ret ?_
    have H : Sep ok w w34 [GRB b9 A1 cp2 A5 cp6 a0, .hole] [RDS A1 cp2 a0, RDK A5 cp6 a0, RE.rd kBool A_row18_1 c_row18_1 l_row18_1] := H.frozen (i := 1) (j := 2) (by rfl) (by rfl)
    obtain rfl := Option.some.inj hm
    exact ⟨[.slice A_row18_1 l_row18_1.length c_row18_1], (.tmp (by rfl) rfl), A_row18_1, c_row18_1, rfl, (H.forgetAll).pick [2]⟩
end Go.Proofs.YtobkigllalbkiaaV.M

/- Graphs, in plain Lean: what the document's own functions of one tell: what is below a node, whether there are loops, which graphs may be. -/
set_option linter.unusedVariables false
set_option linter.unusedSimpArgs false
namespace Go.Proofs.YtobkigllalbkiaaV.M
open Go.RowKit Go.Proofs.YtobkigllalbkiaaV
open Classical
/-! ### what is below a node -/
def Snd (g : S_Graph) (fr : Nat) (o : List Bool) : Prop := o.length = g.Kids.length ∧ o[fr]? = some true ∧ ∀ j : Nat, o[j]? = some true → SR g fr j
def Ful (g : S_Graph) (fr : Nat) (o : List Bool) : Prop := ∀ j, SR g fr j → o[j]? = some true
def Mono (a b : List Bool) : Prop := ∀ j : Nat, a[j]? = some true → b[j]? = some true
def Told (g : S_Graph) (fr : Nat) (x : Option (List Bool)) : Prop := ∃ o, x = some o ∧ o.length = g.Kids.length ∧ ∀ j, j < g.Kids.length → o[j]? = some (decide (SR g fr j))
theorem bool_get {o : List Bool} {j : Nat} (h : j < o.length) : o[j]? = some true ∨ o[j]? = some false := by
  rw [List.getElem?_eq_getElem h]
  cases o[j] <;> simp
theorem told_of {g : S_Graph} {fr : Nat} {o : List Bool} (h1 : Snd g fr o) (h2 : Ful g fr o) : Told g fr (some o) := by
  refine ⟨o, rfl, h1.1, fun j hj => ?_⟩
  by_cases hr : SR g fr j
  · rw [decide_eq_true hr]; exact h2 j hr
  · rw [decide_eq_false hr]
    rcases bool_get (o := o) (j := j) (by rw [h1.1]; exact hj) with h | h
    · exact absurd (h1.2.2 j h) hr
    · exact h
theorem m101_row {K : Nat} (hK : 1000 ≤ K) {g : S_Graph} (W : Whole g) {fr i : Nat} {l : List S_Handle} (hl : g.Kids[i]? = some l) (hll : l.length ≤ 900) (hgl : g.Kids.length ≤ 900) (rec2 : List Bool → Int → Option (List Bool)) (P : Option (List Bool) → Prop) {o0 o1 : List Bool} (hS : Snd g fr o1) (hm : Mono o0 o1)
    (hrec : ∀ o, Snd g fr o → Mono o1 o → (o0[i]? = some true → ∀ k ∈ l, o[k.Slot.toNat]? = some true) → P (rec2 o ((i + 1 : Nat) : Int))) : P (m101_l3 K g (i : Int) rec2 K o1 0) := by
  refine L.loop (σ := List Bool × Int) l.length (fun k s => m101_l3 K g (i : Int) rec2 k s.1 s.2) (fun rec s => m101_l3b K g (i : Int) rec2 (fun a b => rec (a, b)) s.1 s.2) (fun k => rfl)
    (fun k s => s.2 = (k : Int) ∧ Snd g fr s.1 ∧ Mono o1 s.1 ∧ (o0[i]? = some true → ∀ (j : Nat) (x : S_Handle), j < k → l[j]? = some x → s.1[x.Slot.toNat]? = some true)) P ?_ ?_ K 0 (o1, 0) (Nat.zero_le _) (by omega) ⟨rfl, hS, fun j h => h, fun _ j x hj => absurd hj (Nat.not_lt_zero _)⟩
  · rintro k ⟨o, y⟩ rec hk ⟨hy, h1, h2, h3⟩ hr
    simp only at hy h1 h2 h3 hr ⊢
    subst hy
    have gx := L.lt_get hk
    generalize l[k] = x at gx
    have hi : i < o.length := by rw [h1.1]; exact (List.getElem?_eq_some_iff.1 hl).1
    have hxk : x ∈ ks g i := by rw [ks_get hl]; exact List.mem_iff_getElem?.2 ⟨k, gx⟩
    obtain ⟨x0, xl⟩ := kid_lt W hxk
    have hxo : x.Slot.toNat < o.length := by rw [h1.1]; exact xl
    unfold m101_l3b
    rw [L.idx_nat hl, L.dec_t hk, cond_true]
    rcases bool_get hi with hb | hb
    · rw [L.idx_nat hb, cond_true, L.idx_nat hl, L.idx_nat gx, L.idx_in x0 (L.lt_get hxo), L.lete_in, L.ck_succ (by omega)]
      refine hr (_, _) ⟨rfl, ⟨by rw [List.length_set]; exact h1.1, set_mono h1.2.1, fun j hj => ?_⟩, fun j hj => set_mono (h2 j hj), fun h0 j z hj hz => ?_⟩
      · rcases set_get_b hj with rfl | hj
        · exact (h1.2.2 i hb).trans (.step hxk (.refl _))
        · exact h1.2.2 j hj
      · by_cases hjk : j = k
        · subst hjk
          rw [gx] at hz; cases hz
          rw [List.getElem?_set_self hxo]
        · exact set_mono (h3 h0 j z (by omega) hz)
    · rw [L.idx_nat hb, cond_false, L.ck_succ (by omega)]
      refine hr (_, _) ⟨rfl, h1, h2, fun h0 => ?_⟩
      have := h2 i (hm i h0)
      rw [hb] at this; cases this
  · rintro ⟨o, y⟩ rec ⟨hy, h1, h2, h3⟩
    simp only at hy h1 h2 h3 ⊢
    subst hy
    have hi := (List.getElem?_eq_some_iff.1 hl).1
    unfold m101_l3b
    rw [L.idx_nat hl, L.dec_f (Nat.lt_irrefl _), cond_false, L.ck_succ (by omega)]
    refine hrec o h1 h2 fun h0 k hk => ?_
    obtain ⟨j, hj⟩ := List.mem_iff_getElem?.1 hk
    exact h3 h0 j k (List.getElem?_eq_some_iff.1 hj).1 hj
theorem m101_round {K : Nat} (hK : 1000 ≤ K) {g : S_Graph} (W : Whole g) {fr : Nat} (hg : g.Kids.length ≤ 900) (hrow : ∀ (j : Nat) (l : List S_Handle), g.Kids[j]? = some l → l.length ≤ 900) (y : Nat) (hy : y < 1000) (rec1 : List Bool → Int → Option (List Bool)) (P : Option (List Bool) → Prop) {o0 : List Bool} (hS : Snd g fr o0)
    (hrec : ∀ o, Snd g fr o → Mono o0 o → (∀ j, o0[j]? = some true → ∀ k ∈ ks g j, o[k.Slot.toNat]? = some true) → P (rec1 o ((y + 1 : Nat) : Int))) : P (m101_l2 K g (y : Int) rec1 K o0 0) := by
  refine L.loop (σ := List Bool × Int) g.Kids.length (fun k s => m101_l2 K g (y : Int) rec1 k s.1 s.2) (fun rec s => m101_l2b K g (y : Int) rec1 (fun a b => rec (a, b)) s.1 s.2) (fun k => rfl)
    (fun i s => s.2 = (i : Int) ∧ Snd g fr s.1 ∧ Mono o0 s.1 ∧ (∀ j, j < i → o0[j]? = some true → ∀ k ∈ ks g j, s.1[k.Slot.toNat]? = some true)) P ?_ ?_ K 0 (o0, 0) (Nat.zero_le _) (by omega) ⟨rfl, hS, fun j h => h, fun j hj => absurd hj (Nat.not_lt_zero _)⟩
  · rintro i ⟨o, z⟩ rec hi ⟨hz, h1, h2, h3⟩ hr
    simp only at hz h1 h2 h3 hr ⊢
    subst hz
    have gl := L.lt_get hi
    unfold m101_l2b
    rw [L.dec_t hi, cond_true]
    refine m101_row hK W gl (hrow i _ gl) hg _ P h1 h2 fun o' q1 q2 q3 => hr (_, _) ⟨rfl, q1, fun j hj => q2 j (h2 j hj), fun j hj h0 k hk => ?_⟩
    by_cases hji : j = i
    · subst hji
      rw [ks_get gl] at hk
      exact q3 h0 k hk
    · exact q2 _ (h3 j (by omega) h0 k hk)
  · rintro ⟨o, z⟩ rec ⟨hz, h1, h2, h3⟩
    simp only at hz h1 h2 h3 ⊢
    subst hz
    unfold m101_l2b
    rw [L.dec_f (Nat.lt_irrefl _), cond_false, L.ck_succ (by omega)]
    exact hrec o h1 h2 fun j hj => h3 j (by rw [← hS.1]; exact (List.getElem?_eq_some_iff.1 hj).1) hj
theorem m101_eq {K : Nat} (hK : 1000 ≤ K) {g : S_Graph} (W : Whole g) (hg : g.Kids.length ≤ 900) (hrow : ∀ (j : Nat) (l : List S_Handle), g.Kids[j]? = some l → l.length ≤ 900) {fr : Nat} (hfr : fr < g.Kids.length) : Told g fr (m101 K g (fr : Int)) := by
  unfold m101
  rw [L.mks_in (by omega) (by omega), Int.toNat_natCast, L.idx_nat (a := false) (by rw [List.getElem?_replicate, if_pos hfr]), L.lete_in, Int.toNat_natCast]
  refine L.loop (σ := List Bool × Int) g.Kids.length (fun k s => m101_l1 K g k s.1 s.2) (fun rec s => m101_l1b K g (fun a b => rec (a, b)) s.1 s.2) (fun k => rfl)
    (fun i s => s.2 = (i : Int) ∧ Snd g fr s.1 ∧ (Ful g fr s.1 ∨ i + 1 ≤ s.1.count true)) (Told g fr) ?_ ?_ K 0 (_, 0) (Nat.zero_le _) (by omega) ⟨rfl, ⟨by simp, ?_, fun j hj => ?_⟩, .inr ?_⟩
  · rintro i ⟨o0, z⟩ rec hi ⟨hz, h1, h2⟩ hr
    simp only at hz h1 h2 hr ⊢
    subst hz
    unfold m101_l1b
    rw [L.dec_t hi, cond_true]
    refine m101_round hK W hg hrow i (by omega) _ _ h1 fun o q1 q2 q3 => hr (_, _) ⟨rfl, q1, ?_⟩
    rcases h2 with h2 | h2
    · exact .inl fun j hj => q2 j (h2 j hj)
    · obtain ⟨c1, c2⟩ := mono_count o0 o (by rw [h1.1, q1.1]) q2
      by_cases hc : o0.count true = o.count true
      · left
        have e := c2 hc
        subst e
        have key : ∀ {a b : Nat}, SR g a b → o0[a]? = some true → o0[b]? = some true := fun h => by
          induction h with
          | refl => exact fun h => h
          | step hk _ ih => exact fun h => ih (q3 _ h _ hk)
        exact fun j hj => key hj h1.2.1
      · right; simp only; omega
  · rintro ⟨o0, z⟩ rec ⟨hz, h1, h2⟩
    simp only at hz h1 h2 ⊢
    subst hz
    unfold m101_l1b
    rw [L.dec_f (Nat.lt_irrefl _), cond_false]
    have hle : o0.count true ≤ o0.length := List.count_le_length
    rw [h1.1] at hle
    exact told_of h1 (h2.resolve_right (by omega))
  · rw [List.getElem?_set_self (by simpa using hfr)]
  · rcases set_get_b hj with rfl | hj
    · exact .refl _
    · rw [List.getElem?_replicate] at hj
      split at hj <;> simp at hj
  · rw [count_set _ _ (by rw [List.getElem?_replicate, if_pos hfr])]; omega
end Go.Proofs.YtobkigllalbkiaaV.M

/- Graphs, in plain Lean: the document's own test for loops; which graphs may be, by it. -/
set_option linter.unusedVariables false
set_option linter.unusedSimpArgs false
namespace Go.Proofs.YtobkigllalbkiaaV.M
open Go.RowKit Go.Proofs.YtobkigllalbkiaaV
open Classical
def Snl (g : S_Graph) (o : List Bool) : Prop := o.length = g.Kids.length ∧ ∀ j : Nat, o[j]? = some true → Fin' g j
def Fll (g : S_Graph) (o : List Bool) : Prop := ∀ j, j < g.Kids.length → Fin' g j → o[j]? = some true
/-- All of a node's children are counted. -/
def AllIn (o : List Bool) (l : List S_Handle) : Prop := ∀ k ∈ l, o[k.Slot.toNat]? = some true
theorem m129_row {K : Nat} (hK : 1000 ≤ K) {g : S_Graph} (W : Whole g) {i : Nat} {l : List S_Handle} (hl : g.Kids[i]? = some l) (hll : l.length ≤ 900) (hgl : g.Kids.length ≤ 900) (rec2 : List Bool → Int → Int → Option Bool) (P : Option Bool → Prop) {o : List Bool} (hS : Snl g o) {n : Nat} (hn : n = o.count true)
    (hrec : ∀ o' : List Bool, Snl g o' → Mono o o' → (AllIn o l → o'[i]? = some true) → P (rec2 o' ((o'.count true : Nat) : Int) ((i + 1 : Nat) : Int))) : P (m129_l3 K g o (n : Int) (i : Int) rec2 K true 0) := by
  have hi : i < o.length := by rw [hS.1]; exact (List.getElem?_eq_some_iff.1 hl).1
  have hi9 : i < g.Kids.length := (List.getElem?_eq_some_iff.1 hl).1
  have hc : o.count true ≤ o.length := List.count_le_length
  rw [hS.1] at hc
  refine L.loop (σ := Bool × Int) l.length (fun k s => m129_l3 K g o (n : Int) (i : Int) rec2 k s.1 s.2) (fun rec s => m129_l3b K g o (n : Int) (i : Int) rec2 (fun a b => rec (a, b)) s.1 s.2) (fun k => rfl)
    (fun k s => s.2 = (k : Int) ∧ (s.1 = true ↔ ∀ (j : Nat) (x : S_Handle), j < k → l[j]? = some x → o[x.Slot.toNat]? = some true)) P ?_ ?_ K 0 (true, 0) (Nat.zero_le _) (by omega) ⟨rfl, ⟨fun _ j x hj => absurd hj (Nat.not_lt_zero _), fun _ => rfl⟩⟩
  · rintro k ⟨b, y⟩ rec hk ⟨hy, h1⟩ hr
    simp only at hy h1 hr ⊢
    subst hy
    have gx := L.lt_get hk
    generalize l[k] = x at gx
    obtain ⟨x0, xl⟩ := kid_lt W (show x ∈ ks g i by rw [ks_get hl]; exact List.mem_iff_getElem?.2 ⟨k, gx⟩)
    have hxo : x.Slot.toNat < o.length := by rw [hS.1]; exact xl
    unfold m129_l3b
    rw [L.idx_nat hl, L.dec_t hk, cond_true, L.idx_nat hl, L.idx_nat gx]
    rcases bool_get hxo with hb | hb
    · rw [L.idx_in x0 hb, Bool.not_true, cond_false, L.ck_succ (by omega)]
      refine hr (_, _) ⟨rfl, h1.trans ⟨fun h j z hj hz => ?_, fun h j z hj hz => h j z (by omega) hz⟩⟩
      by_cases hjk : j = k
      · subst hjk
        rw [gx] at hz; cases hz; exact hb
      · exact h j z (by omega) hz
    · rw [L.idx_in x0 hb, Bool.not_false, cond_true, L.ck_succ (by omega)]
      refine hr (_, _) ⟨rfl, ⟨fun h => (by cases h), fun h => ?_⟩⟩
      have := h k x (Nat.lt_succ_self k) gx
      rw [hb] at this; cases this
  · rintro ⟨b, y⟩ rec ⟨hy, h1⟩
    simp only at hy h1 ⊢
    subst hy
    have hall : b = true ↔ AllIn o l := h1.trans ⟨fun h k hk => by
      obtain ⟨j, hj⟩ := List.mem_iff_getElem?.1 hk
      exact h j k (List.getElem?_eq_some_iff.1 hj).1 hj, fun h j x _ hx => h x (List.mem_iff_getElem?.2 ⟨j, hx⟩)⟩
    unfold m129_l3b
    rw [L.idx_nat hl, L.dec_f (Nat.lt_irrefl _), cond_false]
    cases b with
    | false =>
      rw [cond_false, Option.bind_some, cond_false, L.ck_succ (by omega), hn]
      exact hrec o hS (fun j h => h) fun h => absurd (hall.2 h) (by simp)
    | true =>
      have hA := hall.1 rfl
      rcases bool_get hi with hb | hb
      · rw [cond_true, L.idx_nat hb, Option.bind_some, Bool.not_true, cond_false, L.ck_succ (by omega), hn]
        exact hrec o hS (fun j h => h) fun _ => hb
      · rw [cond_true, L.idx_nat hb, Option.bind_some, Bool.not_false, cond_true, L.idx_nat hb, L.lete_in, L.ck_succ (by omega), L.ck_succ (by omega), Int.toNat_natCast]
        have e : (((n + 1 : Nat) : Int)) = (((o.set i true).count true : Nat) : Int) := by rw [count_set _ _ hb, hn]
        rw [e]
        refine hrec (o.set i true) ⟨by rw [List.length_set]; exact hS.1, fun j hj => ?_⟩ (fun j h => set_mono h) (fun _ => by rw [List.getElem?_set_self hi])
        rcases set_get_b hj with rfl | hj
        · refine .mk i fun k hk => hS.2 _ (hA k ?_)
          rw [ks_get hl] at hk; exact hk
        · exact hS.2 j hj
theorem m129_round {K : Nat} (hK : 1000 ≤ K) {g : S_Graph} (W : Whole g) (hg : g.Kids.length ≤ 900) (hrow : ∀ (j : Nat) (l : List S_Handle), g.Kids[j]? = some l → l.length ≤ 900) (y : Nat) (hy : y < 1000) (rec1 : List Bool → Int → Int → Option Bool) (P : Option Bool → Prop) {o0 : List Bool} (hS : Snl g o0)
    (hrec : ∀ o : List Bool, Snl g o → Mono o0 o → (∀ j, j < g.Kids.length → AllIn o0 (ks g j) → o[j]? = some true) → P (rec1 o ((o.count true : Nat) : Int) ((y + 1 : Nat) : Int))) : P (m129_l2 K g (y : Int) rec1 K o0 ((o0.count true : Nat) : Int) 0) := by
  refine L.loop (σ := List Bool × Int × Int) g.Kids.length (fun k s => m129_l2 K g (y : Int) rec1 k s.1 s.2.1 s.2.2) (fun rec s => m129_l2b K g (y : Int) rec1 (fun a b c => rec (a, b, c)) s.1 s.2.1 s.2.2) (fun k => rfl)
    (fun i s => s.2.2 = (i : Int) ∧ s.2.1 = ((s.1.count true : Nat) : Int) ∧ Snl g s.1 ∧ Mono o0 s.1 ∧ (∀ j, j < i → AllIn o0 (ks g j) → s.1[j]? = some true)) P ?_ ?_ K 0 (o0, _, 0) (Nat.zero_le _) (by omega) ⟨rfl, rfl, hS, fun j h => h, fun j hj => absurd hj (Nat.not_lt_zero _)⟩
  · rintro i ⟨o, n, z⟩ rec hi ⟨hz, hn, h1, h2, h3⟩ hr
    simp only at hz hn h1 h2 h3 hr ⊢
    subst hz; subst hn
    have gl := L.lt_get hi
    unfold m129_l2b
    rw [L.dec_t hi, cond_true]
    refine m129_row hK W gl (hrow i _ gl) hg _ P h1 rfl fun o' q1 q2 q3 => hr (_, _, _) ⟨rfl, rfl, q1, fun j hj => q2 j (h2 j hj), fun j hj hA => ?_⟩
    by_cases hji : j = i
    · subst hji
      rw [ks_get gl] at hA
      exact q3 fun k hk => h2 _ (hA k hk)
    · exact q2 _ (h3 j (by omega) hA)
  · rintro ⟨o, n, z⟩ rec ⟨hz, hn, h1, h2, h3⟩
    simp only at hz hn h1 h2 h3 ⊢
    subst hz; subst hn
    unfold m129_l2b
    rw [L.dec_f (Nat.lt_irrefl _), cond_false, L.ck_succ (by omega)]
    exact hrec o h1 h2 h3
theorem m129_eq {K : Nat} (hK : 1000 ≤ K) {g : S_Graph} (W : Whole g) (hg : g.Kids.length ≤ 900) (hrow : ∀ (j : Nat) (l : List S_Handle), g.Kids[j]? = some l → l.length ≤ 900) : m129 K g = some (decide (∀ j, j < g.Kids.length → Fin' g j)) := by
  unfold m129
  rw [L.mks_in (by omega) (by omega), Int.toNat_natCast]
  have hc0 : (List.replicate g.Kids.length false).count true = 0 := by rw [List.count_replicate]; simp
  have key := L.loop (σ := List Bool × Int × Int) g.Kids.length (fun k s => m129_l1 K g k s.1 s.2.1 s.2.2) (fun rec s => m129_l1b K g (fun a b c => rec (a, b, c)) s.1 s.2.1 s.2.2) (fun k => rfl)
    (fun i s => s.2.2 = (i : Int) ∧ s.2.1 = ((s.1.count true : Nat) : Int) ∧ Snl g s.1 ∧ (Fll g s.1 ∨ i ≤ s.1.count true)) (fun o => o = some (decide (∀ j, j < g.Kids.length → Fin' g j))) ?_ ?_ K 0 (List.replicate g.Kids.length false, 0, 0) (Nat.zero_le _) (by omega) ⟨rfl, by simp only [hc0]; rfl, ⟨by simp, fun j hj => ?_⟩, .inr (Nat.zero_le _)⟩
  · exact key
  · rintro i ⟨o0, n, z⟩ rec hi ⟨hz, hn, h1, h2⟩ hr
    simp only at hz hn h1 h2 hr ⊢
    subst hz; subst hn
    unfold m129_l1b
    rw [L.dec_t hi, cond_true]
    refine m129_round hK W hg hrow i (by omega) (fun a b c => rec (a, b, c)) (fun o => o = some (decide (∀ j, j < g.Kids.length → Fin' g j))) h1 fun o q1 q2 q3 => hr (_, _, _) ⟨rfl, rfl, q1, ?_⟩
    rcases h2 with h2 | h2
    · exact .inl fun j hj hf => q2 j (h2 j hj hf)
    · obtain ⟨c1, c2⟩ := mono_count o0 o (by rw [h1.1, q1.1]) q2
      by_cases hc : o0.count true = o.count true
      · left
        have e := c2 hc
        subst e
        intro j hj hf
        induction hf with
        | mk j hk ih => exact q3 j hj fun k hkk => ih k hkk (kid_lt W hkk).2
      · right; simp only; omega
  · rintro ⟨o0, n, z⟩ rec ⟨hz, hn, h1, h2⟩
    simp only at hz hn h1 h2 ⊢
    subst hz; subst hn
    unfold m129_l1b
    rw [L.dec_f (Nat.lt_irrefl _), cond_false]
    congr 1
    have hle : o0.count true ≤ o0.length := List.count_le_length
    have hl := h1.1
    have hF : Fll g o0 := by
      rcases h2 with h2 | h2
      · exact h2
      · exact fun j hj _ => all_count o0 (by omega) j (by omega)
    by_cases hall : ∀ j, j < g.Kids.length → Fin' g j
    · rw [decide_eq_true hall]
      have := count_all o0 fun j hj => hF j (by omega) (hall j (by omega))
      simp; omega
    · rw [decide_eq_false hall]
      have : o0.count true ≠ g.Kids.length := fun h => hall fun j hj => h1.2 j (all_count o0 (by omega) j (by omega))
      simp; omega
  · rw [List.getElem?_replicate] at hj
    split at hj <;> simp at hj
/-! ### which graphs may be -/
theorem m128_eq (K : Nat) (a : S_Arena) (h : S_Handle) : m128 K a h = some (decide (HeldA a h)) := by
  unfold m128
  by_cases h0 : 0 ≤ h.Slot
  · rw [decide_eq_true h0, cond_true, Option.bind_some]
    by_cases h1 : h.Slot < (a.Slots.length : Int)
    · have hlt : h.Slot.toNat < a.Slots.length := by omega
      have hg := L.lt_get hlt
      generalize a.Slots[h.Slot.toNat] = s at hg
      rw [decide_eq_true h1, cond_true, L.idx_in h0 hg, Option.bind_some]
      have iff_ : HeldA a h ↔ s.Gen = h.Gen ∧ s.Live = true := ⟨fun ⟨_, t, e, q⟩ => by rw [hg] at e; cases e; exact q, fun q => ⟨h0, s, hg, q⟩⟩
      cases hL : s.Live with
      | false => rw [cond_false, Option.bind_some, decide_eq_false fun q => by have := (iff_.1 q).2; rw [hL] at this; cases this]
      | true =>
        rw [cond_true, L.idx_in h0 hg, Option.bind_some]
        congr 1
        by_cases hG : s.Gen = h.Gen
        · rw [decide_eq_true (iff_.2 ⟨hG, hL⟩)]; simpa using hG
        · rw [decide_eq_false fun q => hG (iff_.1 q).1]; simpa using hG
    · rw [decide_eq_false h1, cond_false, Option.bind_some, cond_false, Option.bind_some, decide_eq_false]
      rintro ⟨_, s, e, _⟩
      have := (List.getElem?_eq_some_iff.1 e).1; omega
  · rw [decide_eq_false h0, cond_false, Option.bind_some, cond_false, Option.bind_some, cond_false, Option.bind_some, decide_eq_false (fun q => h0 q.1)]
theorem m127_eq {K : Nat} (hK : 1000 ≤ K) {a : S_Arena} (hl : a.Slots.length ≤ 900) : m127 K a = some (decide (ArenaOK a)) := by
  refine L.loop (σ := Int) a.Slots.length (fun k s => m127_l1 K a k s) (fun rec s => m127_l1b K a rec s) (fun k => rfl)
    (fun i s => s = (i : Int) ∧ ∀ j s, j < i → a.Slots[j]? = some s → 1 ≤ s.Gen ∧ s.Gen ≤ 1073741824) (fun o => o = some (decide (ArenaOK a))) ?_ ?_ K 0 0 (Nat.zero_le _) (by omega) ⟨rfl, fun j l hj => absurd hj (Nat.not_lt_zero _)⟩
  · rintro i y rec hi ⟨rfl, hI⟩ hr
    have gs := L.lt_get hi
    generalize a.Slots[i] = s at gs
    unfold m127_l1b
    rw [L.dec_t hi, cond_true, L.idx_nat gs, L.idx_nat gs]
    have no : ¬ (1 ≤ s.Gen ∧ s.Gen ≤ 1073741824) → some false = some (decide (ArenaOK a)) := fun hn => by
      rw [decide_eq_false]
      exact fun hA => hn (hA.2 s (List.mem_iff_getElem?.2 ⟨i, gs⟩))
    by_cases c1 : s.Gen < 1
    · rw [decide_eq_true c1, cond_true, Option.bind_some, cond_true]
      exact no (by omega)
    · by_cases c2 : 1073741824 < s.Gen
      · rw [decide_eq_false c1, cond_false, decide_eq_true c2, Option.bind_some, cond_true]
        exact no (by omega)
      · rw [decide_eq_false c1, cond_false, decide_eq_false c2, Option.bind_some, cond_false, L.ck_succ (by omega)]
        refine hr _ ⟨rfl, fun j t hj ht => ?_⟩
        by_cases hji : j = i
        · subst hji
          rw [gs] at ht; cases ht; omega
        · exact hI j t (by omega) ht
  · rintro y rec ⟨rfl, hI⟩
    unfold m127_l1b
    rw [L.dec_f (Nat.lt_irrefl _), cond_false]
    congr 1
    by_cases h : a.Slots.length ≤ 128
    · rw [decide_eq_true (by omega : (a.Slots.length : Int) ≤ 128), decide_eq_true]
      refine ⟨h, fun s hs => ?_⟩
      obtain ⟨j, hj⟩ := List.mem_iff_getElem?.1 hs
      exact hI j s (List.getElem?_eq_some_iff.1 hj).1 hj
    · rw [decide_eq_false (by omega : ¬ (a.Slots.length : Int) ≤ 128), decide_eq_false fun hA => h hA.1]
theorem m96_row {K : Nat} (hK : 1000 ≤ K) {g : S_Graph} {i : Nat} {l : List S_Handle} (hl : g.Kids[i]? = some l) (hll : l.length ≤ 900) (hi9 : i < 900) (rec1 : Int → Option Bool) : m96_l2 K g (i : Int) rec1 K 0 = if ∀ h ∈ l, HeldA g.Arena h then rec1 ((i + 1 : Nat) : Int) else some false := by
  refine L.loop (σ := Int) l.length (fun k s => m96_l2 K g (i : Int) rec1 k s) (fun rec s => m96_l2b K g (i : Int) rec1 rec s) (fun k => rfl)
    (fun k s => s = (k : Int) ∧ ∀ j h, j < k → l[j]? = some h → HeldA g.Arena h) (fun o => o = if ∀ h ∈ l, HeldA g.Arena h then rec1 ((i + 1 : Nat) : Int) else some false) ?_ ?_ K 0 0 (Nat.zero_le _) (by omega) ⟨rfl, fun j l hj => absurd hj (Nat.not_lt_zero _)⟩
  · rintro k y rec hk ⟨rfl, hI⟩ hr
    have gx := L.lt_get hk
    generalize l[k] = x at gx
    unfold m96_l2b
    rw [L.idx_nat hl, L.dec_t hk, cond_true, L.idx_nat hl, L.idx_nat gx, m128_eq, Option.bind_some]
    by_cases hh : HeldA g.Arena x
    · rw [decide_eq_true hh, Bool.not_true, cond_false, L.ck_succ (by omega)]
      refine hr _ ⟨rfl, fun j z hj hz => ?_⟩
      by_cases hjk : j = k
      · subst hjk
        rw [gx] at hz; cases hz; exact hh
      · exact hI j z (by omega) hz
    · rw [decide_eq_false hh, Bool.not_false, cond_true, if_neg fun h => hh (h x (List.mem_iff_getElem?.2 ⟨k, gx⟩))]
  · rintro y rec ⟨rfl, hI⟩
    unfold m96_l2b
    rw [L.idx_nat hl, L.dec_f (Nat.lt_irrefl _), cond_false, L.ck_succ (by omega), if_pos]
    intro h hh
    obtain ⟨j, hj⟩ := List.mem_iff_getElem?.1 hh
    exact hI j h (List.getElem?_eq_some_iff.1 hj).1 hj
theorem m96_eq {K : Nat} (hK : 1000 ≤ K) {g : S_Graph} (Sm : Small g) : m96 K g = some (decide (May g)) := by
  have s1 := Sm.kids
  have s2 := Sm.slots
  have s3 := Sm.rows
  unfold m96
  rw [m127_eq hK (by omega), Option.bind_some]
  by_cases hA : ArenaOK g.Arena
  · rw [decide_eq_true hA, Bool.not_true, cond_false, Option.bind_some]
    by_cases hlen : g.Kids.length = g.Arena.Slots.length
    · rw [show ((g.Kids.length : Int) != (g.Arena.Slots.length : Int)) = false by simp [hlen], cond_false]
      refine L.loop (σ := Int) g.Kids.length (fun k s => m96_l1 K g k s) (fun rec s => m96_l1b K g rec s) (fun k => rfl)
        (fun i s => s = (i : Int) ∧ ∀ j l, j < i → g.Kids[j]? = some l → RowOK g j l) (fun o => o = some (decide (May g))) ?_ ?_ K 0 0 (Nat.zero_le _) (by omega) ⟨rfl, fun j l hj => absurd hj (Nat.not_lt_zero _)⟩
      · rintro i y rec hi ⟨rfl, hI⟩ hr
        have gl := L.lt_get hi
        generalize g.Kids[i] = l at gl
        have gs := L.lt_get (l := g.Arena.Slots) (i := i) (by omega)
        generalize g.Arena.Slots[i]'(by omega) = s at gs
        have no : ¬ RowOK g i l → some false = some (decide (May g)) := fun hn => by
          rw [decide_eq_false]; exact fun hM => hn (hM.rows i l gl)
        unfold m96_l1b
        rw [L.dec_t hi, cond_true, L.idx_nat gl]
        by_cases c1 : 16 < l.length
        · rw [decide_eq_true (by omega : (16 : Int) < (l.length : Int)), cond_true, Option.bind_some, cond_true]
          exact no fun hR => absurd hR.1 (by omega)
        rw [decide_eq_false (by omega : ¬ (16 : Int) < (l.length : Int)), cond_false, L.idx_nat gl, L.idx_nat gs]
        have e2 : ((bif decide (0 < (l.length : Int)) then some (!s.Live) else some false).bind fun b54 => some b54) = some (decide (¬ (l ≠ [] → s.Live = true))) := by
          cases l with
          | nil => simp
          | cons x l =>
            rw [decide_eq_true (by simp : (0 : Int) < ((x :: l).length : Int))]
            cases s.Live <;> simp
        rw [e2, Option.bind_some]
        by_cases c2 : l ≠ [] → s.Live = true
        · rw [decide_eq_false (fun h => h c2), cond_false, m96_row hK gl (by omega) (by omega)]
          by_cases c3 : ∀ h ∈ l, HeldA g.Arena h
          · rw [if_pos c3]
            refine hr _ ⟨rfl, fun j l' hj hl' => ?_⟩
            by_cases hji : j = i
            · subst hji
              rw [gl] at hl'; cases hl'
              exact ⟨by omega, fun hne => ⟨s, gs, c2 hne⟩, c3⟩
            · exact hI j l' (by omega) hl'
          · rw [if_neg c3]
            exact no fun hR => c3 hR.2.2
        · rw [decide_eq_true c2, cond_true]
          refine no fun hR => c2 fun hne => ?_
          obtain ⟨s2, h2, h3⟩ := hR.2.1 hne
          rw [gs] at h2; cases h2; exact h3
      · rintro y rec ⟨rfl, hI⟩
        unfold m96_l1b
        have S : Shape g := ⟨hA, hlen, fun j l hl => hI j l (List.getElem?_eq_some_iff.1 hl).1 hl⟩
        rw [L.dec_f (Nat.lt_irrefl _), cond_false, m129_eq hK S.whole (by omega) (fun j l hl => by have := (S.rows j l hl).1; omega), Option.bind_some]
        congr 1
        by_cases hM : May g
        · rw [decide_eq_true hM, decide_eq_true ((loose_iff S).1 hM.loose)]
        · rw [decide_eq_false hM, decide_eq_false fun h => hM ⟨S, (loose_iff S).2 h⟩]
    · rw [show ((g.Kids.length : Int) != (g.Arena.Slots.length : Int)) = true by simp; omega, cond_true, decide_eq_false fun h : May g => hlen h.len]
  · rw [decide_eq_false hA, Bool.not_false, cond_true, Option.bind_some, cond_true, decide_eq_false fun h : May g => hA h.arena]
theorem m98_eq {K : Nat} (hK : 1000 ≤ K) {g : S_Graph} (Sm : Small g) (h i : S_Handle) : m98 K g h i = some (if May g then if HeldA g.Arena h ∧ HeldA g.Arena i then 0 else 50 else 8) := by
  unfold m98
  rw [m96_eq hK Sm, Option.bind_some]
  by_cases hM : May g
  · rw [decide_eq_true hM, Bool.not_true, cond_false, if_pos hM, m128_eq, Option.bind_some]
    by_cases h1 : HeldA g.Arena h
    · rw [decide_eq_true h1, Bool.not_true, cond_false, m128_eq, Option.bind_some, Option.bind_some]
      by_cases h2 : HeldA g.Arena i
      · rw [decide_eq_true h2, Bool.not_true, cond_false, if_pos ⟨h1, h2⟩]
      · rw [decide_eq_false h2, Bool.not_false, cond_true, if_neg fun h => h2 h.2]
    · rw [decide_eq_false h1, Bool.not_false, cond_true, Option.bind_some, cond_true, if_neg fun h => h1 h.1]
  · rw [decide_eq_false hM, Bool.not_false, cond_true, if_neg hM]
end Go.Proofs.YtobkigllalbkiaaV.M

/- A plain Lean function that answers as the Go function does (none: not told), and the proof that a call answers so. Written by program. -/
set_option linter.unusedVariables false
namespace Go.Proofs.YtobkigllalbkiaaV.M
open Go.RowKit Go.Proofs.YtobkigllalbkiaaV
def m44_l1b (K : Nat) (a0 : S_Graph) (rec1 : Int → Int → Option (Bool)) (y3_1 : Int) (y4_1 : Int) : Option (Bool) :=
 (bif (decide (y4_1 < (a0.Kids.length : Int))) then (idx a0.Kids y4_1 fun el16 => (ck (y3_1 + (el16.length : Int)) fun x33 => (bif (decide (400 < x33)) then some true else (ck (y4_1 + 1) fun x34 => (rec1 x33 x34))))) else some false)
def m44_l1 (K : Nat) (a0 : S_Graph) : Nat → Int → Int → Option (Bool)
 | 0 => fun _ _ => none
 | k + 1 => m44_l1b K a0 (m44_l1 K a0 k)
/-- diorama/dioramaref06.Great -/
def m44 (K : Nat) (a0 : S_Graph) : Option (Bool) :=
 ((bif (decide (200 < (a0.Arena.Slots.length : Int))) then some true else some (decide (200 < (a0.Kids.length : Int)))).bind fun b11 => (bif b11 then some true else m44_l1 K a0 K 0 0))
set_option maxRecDepth 100000 in
set_option maxHeartbeats 4000000 in
theorem c44 (ok : Okp) (K : Nat) (w : World) (a0 : S_Graph) (A1 : Option Addr) (cp2 : Nat) (A5 : Option Addr) (cp6 : Nat) (hR3 : Rd k_Slot w ok A1 cp2 a0.Arena.Slots) (hR7 : Rd (Kd.slice k_Handle) w ok A5 cp6 a0.Kids) (res : Bool) (hm : m44 K a0 = some res) :
  Calls Try.prog 44 #[.agg #[.slice A1 a0.Arena.Slots.length cp2, .slice A5 a0.Kids.length cp6]] w (fun e w' => e = .returned (tup [.bool res]) ∧ Sep ok w w' [] []) := by
 refine calls_W (args := [.agg #[.slice A1 a0.Arena.Slots.length cp2, .slice A5 a0.Kids.length cp6]]) Try.func44 rfl Try.ntmps44 Try.results44 rfl fun r hr => ?_
 obtain ⟨r1, rfl⟩ := regen (r := r) [(0, .agg #[.slice A1 a0.Arena.Slots.length cp2, .slice A5 a0.Kids.length cp6])] ⟨hr 0 _ rfl, trivial⟩
 have H : Sep ok w w [] [RDS A1 cp2 a0, RDK A5 cp6 a0] := Sep.arg (Sep.arg (Sep.start ok w) (re := RE.rd k_Slot A1 cp2 a0.Arena.Slots) rfl rfl hR3) (re := RE.rd (Kd.slice k_Handle) A5 cp6 a0.Kids) rfl rfl hR7
 unfold m44 at hm
 refine W_seq ?_
 refine W_region ?_
 refine RL_cons (O_box (by exact wn0 rfl) (by rfl) (by rfl) (by rfl) H (fun w10 b9 (H : Sep ok w w10 [GRB b9 A1 cp2 A5 cp6 a0] [RDS A1 cp2 a0, RDK A5 cp6 a0]) => ?_))
 refine RL_p (x_assign (v := .bool false) (by rfl)) ?_
 refine RL_nil ?_
 refine W_seq ?_
 refine W_seq ?_
 refine W_region ?_
 refine RL_p (x_fieldAddr fo79_0 (by rfl)) ?_
 refine RL_p (x_fieldAddr fo76_0 (by rfl)) ?_
 refine RL_p (x_load (j := 0) (v := .slice A1 a0.Arena.Slots.length cp2) sc74 (by rfl) (H.cells (i := 0) (by rfl)) (by rfl)) ?_
 refine RL_p (x_len sl74 (by rfl)) ?_
 refine RL_p (x_gtr (by rfl) (by rfl)) ?_
 refine RL_p (x_move (v := .bool (decide (200 < (a0.Arena.Slots.length : Int)))) (by rfl)) ?_
 obtain ⟨b11, hmS, hm⟩ := bind_some hm
 refine RL_cut 5 (fun r' w' => Agr [(15, .bool b11), (1, .pointer (some ⟨b9, 0, none⟩))] r' ∧ Sep ok w w' [GRB b9 A1 cp2 A5 cp6 a0] [RDS A1 cp2 a0, RDK A5 cp6 a0]) ?_ ?_
 ·cases hbS : (decide (200 < (a0.Arena.Slots.length : Int)))
  ·have hm := cond_f hbS hmS
   refine RL_pure (by exact wn1 rfl rfl rfl rfl) (by rfl) (by rfl) (x_fieldAddr fo79_1 (by rfl)) ?_
   refine RL_pure (by exact wn1 rfl rfl rfl rfl) (by rfl) (by rfl) (x_load (j := 1) (v := .slice A5 a0.Kids.length cp6) sc77 (by rfl) (H.cells (i := 0) (by rfl)) (by rfl)) ?_
   refine RL_pure (by exact wn1 rfl rfl rfl rfl) (by rfl) (by rfl) (x_len sl77 (by rfl)) ?_
   refine RL_pure (by exact wn1 rfl rfl rfl rfl) (by rfl) (by rfl) (x_gtr (by rfl) (by rfl)) ?_
   refine RL_p (x_pick_f (v := .bool (decide (200 < (a0.Kids.length : Int)))) (by rfl) (by rfl)) ?_
   refine RL_nil ?_
   exact ⟨⟨congrArg Value.bool (Option.some.inj hm), rfl, trivial⟩, H⟩
  ·have hm := cond_t hbS hmS
   refine RL_cons (OpR_off (by exact wn2 rfl rfl rfl rfl) (by rfl) (by rfl) ?_)
   refine RL_cons (OpR_off (by exact wn2 rfl rfl rfl rfl) (by rfl) (by rfl) ?_)
   refine RL_cons (OpR_off (by exact wn2 rfl rfl rfl rfl) (by rfl) (by rfl) ?_)
   refine RL_cons (OpR_off (by exact wn2 rfl rfl rfl rfl) (by rfl) (by rfl) ?_)
   refine RL_p (x_pick_t (v := .bool true) (by rfl) (by rfl)) ?_
   refine RL_nil ?_
   exact ⟨⟨congrArg Value.bool (Option.some.inj hm), rfl, trivial⟩, H⟩
 ·rintro r' w' ⟨hA, H⟩
  obtain ⟨r12, rfl⟩ := regen _ hA; clear hA
  obtain ⟨w13, rfl⟩ : ∃ W : World, W = w' := ⟨_, rfl⟩
  show RL _ _ _ _ _ _ _
  refine RL_nil ?_
  refine W_cond (by rfl) (fun hb => ?_) (fun hb => ?_)
  ·have hm := cond_t hb hm
   refine W_seq ?_
   refine W_region ?_
   refine RL_p (x_assign (v := .bool true) (by rfl)) ?_
   refine RL_nil ?_
   refine W_ret ?_
   obtain rfl := Option.some.inj hm
   exact ⟨[.bool true], (.tmp (by rfl) rfl), rfl, H.none_⟩
  ·have hm := cond_f hb hm
   refine W_skip ?_
   refine W_seq ?_
   refine W_region ?_
   refine RL_p (x_assign (v := .int .i64 0) (by rfl)) ?_
   refine RL_nil ?_
   refine W_seq ?_
   refine W_seq ?_
   refine W_region ?_
   refine RL_p (x_assign (v := .int .i64 0) (by rfl)) ?_
   refine RL_nil ?_
   refine W_block ?_
   refine W_loop (fun k1 r' w' => ∃ (y3_1 : Int), ∃ (y4_1 : Int), m44_l1 K a0 k1 y3_1 y4_1 = some res ∧ Agr [(1, .pointer (some ⟨b9, 0, none⟩)), (3, .int .i64 y3_1), (4, .int .i64 y4_1)] r' ∧ Sep ok w w' [GRB b9 A1 cp2 A5 cp6 a0] [RDS A1 cp2 a0, RDK A5 cp6 a0]) K ?_ ?_
   ·exact ⟨0, 0, hm, ⟨rfl, rfl, rfl, trivial⟩, H⟩
   ·rintro k1 r' w' ⟨y3_1, y4_1, hm, hA, H⟩
    obtain ⟨r14, rfl⟩ := regen _ hA; clear hA
    obtain ⟨w15, rfl⟩ : ∃ W : World, W = w' := ⟨_, rfl⟩
    cases k1 with
    | zero => exact (none_some hm).elim
    | succ k1 =>
     have hm : m44_l1b K a0 (m44_l1 K a0 k1) y3_1 y4_1 = some res := hm
     unfold m44_l1b at hm
     obtain ⟨rec1, hrec1⟩ : ∃ f, m44_l1 K a0 k1 = f := ⟨_, rfl⟩
     rw [hrec1] at hm
     refine W_seq ?_
     refine W_seq ?_
     refine W_region ?_
     refine RL_p (x_move (v := .int .i64 y4_1) (by rfl)) ?_
     refine RL_p (x_fieldAddr fo79_1 (by rfl)) ?_
     refine RL_p (x_load (j := 1) (v := .slice A5 a0.Kids.length cp6) sc77 (by rfl) (H.cells (i := 0) (by rfl)) (by rfl)) ?_
     refine RL_p (x_len sl77 (by rfl)) ?_
     refine RL_p (x_lss (by rfl) (by rfl)) ?_
     refine RL_nil ?_
     refine W_cond (by rfl) (fun hb => ?_) (fun hb => ?_)
     ·have hm := cond_t hb hm
      refine W_skip ?_
      refine W_seq ?_
      refine W_block ?_
      refine W_seq ?_
      refine W_region ?_
      refine RL_p (x_move (v := .int .i64 y3_1) (by rfl)) ?_
      refine RL_p (x_fieldAddr fo79_1 (by rfl)) ?_
      refine RL_p (x_load (j := 1) (v := .slice A5 a0.Kids.length cp6) sc77 (by rfl) (H.cells (i := 0) (by rfl)) (by rfl)) ?_
      refine RL_p (x_move (v := .int .i64 y4_1) (by rfl)) ?_
      obtain ⟨el16, h17, h18, he19, hm⟩ := idx_some hm
      obtain ⟨g21, o22, hA20⟩ := (H.rd (i := 1) (by rfl)).addr he19
      obtain ⟨cs23, hk24, hat25, hg_cs23⟩ := (H.rd (i := 1) (by rfl)).openAt hA20 he19
      obtain ⟨A28, cp29, rfl, hR31⟩ := hk24
      have H : Sep ok w w15 [GRB b9 A1 cp2 A5 cp6 a0] [RDS A1 cp2 a0, RDK A5 cp6 a0, RE.cells g21 (o22 + (y4_1).toNat * 1) [.slice A28 el16.length cp29]] := Sep.also H (re := RE.cells g21 (o22 + (y4_1).toNat * 1) [.slice A28 el16.length cp29]) ⟨hg_cs23, hat25⟩
      have H : Sep ok w w15 [GRB b9 A1 cp2 A5 cp6 a0] [RDS A1 cp2 a0, RDK A5 cp6 a0, RE.cells g21 (o22 + (y4_1).toNat * 1) [.slice A28 el16.length cp29], RE.rd k_Handle A28 cp29 el16] := Sep.also H (re := RE.rd k_Handle A28 cp29 el16) hR31
      refine RL_p (x_indexAddr sl77 sz87 (by rfl) (by rfl) hA20 h17 h18) ?_
      refine RL_p (x_load (j := 0) (v := .slice A28 el16.length cp29) sc87 (by rfl) (H.cellsR (i := 2) (by rfl)) (by rfl)) ?_
      refine RL_p (x_len sl87 (by rfl)) ?_
      obtain ⟨x33, ex33, qx33, ux33, hm⟩ := ck_some hm
      refine RL_p (x_add (by rfl) (by rfl) ux33) ?_
      refine RL_p (x_assign (v := .int .i64 x33) (by rfl)) ?_
      refine RL_nil ?_
      refine W_seq ?_
      refine W_region ?_
      refine RL_p (x_move (v := .int .i64 x33) (by rfl)) ?_
      refine RL_p (x_gtr (by rfl) (by rfl)) ?_
      refine RL_nil ?_
      refine W_cond (by rfl) (fun hb => ?_) (fun hb => ?_)
      ·have hm := cond_t hb hm
       refine W_seq ?_
       refine W_region ?_
       refine RL_p (x_assign (v := .bool true) (by rfl)) ?_
       refine RL_nil ?_
       refine W_ret ?_
       obtain rfl := Option.some.inj hm
       exact ⟨[.bool true], (.tmp (by rfl) rfl), rfl, H.none_⟩
      ·have hm := cond_f hb hm
       refine W_skip ?_
       refine W_region ?_
       refine RL_p (x_move (v := .int .i64 y4_1) (by rfl)) ?_
       obtain ⟨x34, ex34, qx34, ux34, hm⟩ := ck_some hm
       refine RL_p (x_add (by rfl) (by rfl) ux34) ?_
       refine RL_p (x_assign (v := .int .i64 x34) (by rfl)) ?_
       refine RL_nil ?_
       subst hrec1
       exact ⟨k1, Nat.lt_succ_self k1, x33, x34, hm, ⟨rfl, rfl, rfl, trivial⟩, (H).pick [0, 1]⟩
     ·have hm := cond_f hb hm
      refine W_exit ?_
      refine W_seq ?_
      refine W_region ?_
      refine RL_p (x_assign (v := .bool false) (by rfl)) ?_
      refine RL_nil ?_
      refine W_ret ?_
      obtain rfl := Option.some.inj hm
      exact ⟨[.bool false], (.tmp (by rfl) rfl), rfl, H.none_⟩
end Go.Proofs.YtobkigllalbkiaaV.M

/- Graphs, in plain Lean: how great one is. -/
set_option linter.unusedVariables false
set_option linter.unusedSimpArgs false
namespace Go.Proofs.YtobkigllalbkiaaV.M
open Go.RowKit Go.Proofs.YtobkigllalbkiaaV
open Classical
/-- No row takes all of a process's addresses. -/
def RowsB (g : S_Graph) : Prop := ∀ l ∈ g.Kids, l.length ≤ 140737488355328
theorem m44_eq {K : Nat} (hK : 1000 ≤ K) (g : S_Graph) (hB : RowsB g) : ∃ b, m44 K g = some b ∧ (b = false → Small g) := by
  unfold m44
  by_cases c1 : 200 < g.Arena.Slots.length
  · rw [decide_eq_true (by omega : (200 : Int) < (g.Arena.Slots.length : Int))]
    exact ⟨true, rfl, fun h => by cases h⟩
  rw [decide_eq_false (by omega : ¬ (200 : Int) < (g.Arena.Slots.length : Int)), cond_false, Option.bind_some]
  by_cases c2 : 200 < g.Kids.length
  · rw [decide_eq_true (by omega : (200 : Int) < (g.Kids.length : Int))]
    exact ⟨true, rfl, fun h => by cases h⟩
  rw [decide_eq_false (by omega : ¬ (200 : Int) < (g.Kids.length : Int)), cond_false]
  refine L.loop (σ := Int × Int) g.Kids.length (fun k s => m44_l1 K g k s.1 s.2) (fun rec s => m44_l1b K g (fun a b => rec (a, b)) s.1 s.2) (fun k => rfl)
    (fun i s => s.2 = (i : Int) ∧ 0 ≤ s.1 ∧ s.1 ≤ 400 ∧ ∀ (j : Nat) (l : List S_Handle), j < i → g.Kids[j]? = some l → l.length ≤ 400) (fun o => ∃ b, o = some b ∧ (b = false → Small g)) ?_ ?_ K 0 (0, 0) (Nat.zero_le _) (by omega) ⟨rfl, by decide, by decide, fun j l hj => absurd hj (Nat.not_lt_zero _)⟩
  · rintro i ⟨n, y⟩ rec hi ⟨hy, h0, h4, hI⟩ hrec
    simp only at hy h0 h4 hI hrec ⊢
    subst hy
    have g1 := L.lt_get hi
    generalize g.Kids[i] = l at g1
    have hb := hB l (List.mem_iff_getElem?.2 ⟨i, g1⟩)
    unfold m44_l1b
    rw [L.dec_t hi, cond_true, L.idx_nat g1, L.ck_in (by omega) (by omega)]
    by_cases c3 : 400 < n + (l.length : Int)
    · rw [decide_eq_true c3]
      exact ⟨true, rfl, fun h => by cases h⟩
    · rw [decide_eq_false c3, cond_false, L.ck_succ (by omega)]
      refine hrec (n + (l.length : Int), ((i + 1 : Nat) : Int)) ⟨rfl, by simp only; omega, by simp only; omega, fun j l' hj hl' => ?_⟩
      by_cases hji : j = i
      · subst hji
        rw [g1] at hl'; cases hl'; omega
      · exact hI j l' (by omega) hl'
  · rintro ⟨n, y⟩ rec ⟨hy, h0, h4, hI⟩
    simp only at hy h0 h4 hI ⊢
    subst hy
    unfold m44_l1b
    rw [L.dec_f (Nat.lt_irrefl _), cond_false]
    exact ⟨false, rfl, fun _ => ⟨by omega, by omega, fun j l hl => by have := hI j l (List.getElem?_eq_some_iff.1 hl).1 hl; omega⟩⟩
end Go.Proofs.YtobkigllalbkiaaV.M

/- A plain Lean function that answers as the Go function does (none: not told), and the proof that a call answers so. Written by program. -/
set_option linter.unusedVariables false
namespace Go.Proofs.YtobkigllalbkiaaV.M
open Go.RowKit Go.Proofs.YtobkigllalbkiaaV
/-- diorama/dioramaref05.Twin -/
def m95 (K : Nat) (a0 : S_Arena) : Option (S_Arena) :=
 (apds 16 ([] : List S_Slot) a0.Slots fun l17 => some (⟨l17⟩ : S_Arena))
set_option maxRecDepth 100000 in
set_option maxHeartbeats 4000000 in
theorem c95 (ok : Okp) (K : Nat) (w : World) (a0 : S_Arena) (A1 : Option Addr) (cp2 : Nat) (hR3 : Rd k_Slot w ok A1 cp2 a0.Slots) (res : S_Arena) (hm : m95 K a0 = some res) :
  Calls Try.prog 95 #[.agg #[.slice A1 a0.Slots.length cp2]] w (fun e w' => ∃ (A0_ : Option Addr) (c0_ : Nat) (sA0_ : List Value), e = .returned (tup [.agg #[.slice A0_ res.Slots.length c0_]]) ∧ Sep ok w w' [.row (.slice A0_ res.Slots.length c0_) 96 k_Slot.sz res.Slots.length sA0_] [RE.chunks k_Slot sA0_ res.Slots]) := by
 refine calls_W (args := [.agg #[.slice A1 a0.Slots.length cp2]]) Try.func95 rfl Try.ntmps95 Try.results95 rfl fun r hr => ?_
 obtain ⟨r1, rfl⟩ := regen (r := r) [(0, .agg #[.slice A1 a0.Slots.length cp2])] ⟨hr 0 _ rfl, trivial⟩
 have H : Sep ok w w [] [RE.rd k_Slot A1 cp2 a0.Slots] := Sep.arg (Sep.start ok w) (re := RE.rd k_Slot A1 cp2 a0.Slots) rfl rfl hR3
 unfold m95 at hm
 refine W_seq ?_
 refine W_region ?_
 refine RL_cons (O_box (by exact wn0 rfl) (by rfl) (by rfl) (by rfl) H (fun w6 b5 (H : Sep ok w w6 [.blk b5 76 [.slice A1 a0.Slots.length cp2]] [RE.rd k_Slot A1 cp2 a0.Slots]) => ?_))
 refine RL_cons (O_alloc (by exact wn0 rfl) (by rfl) ze76 (by rfl) H (fun w8 b7 (H : Sep ok w w8 [.blk b5 76 [.slice A1 a0.Slots.length cp2], .blk b7 76 [.slice none 0 0]] [RE.rd k_Slot A1 cp2 a0.Slots]) => ?_))
 refine RL_nil ?_
 refine W_seq ?_
 refine W_region ?_
 refine RL_cons (O_alloc (by exact wn0 rfl) (by rfl) ze76 (by rfl) H (fun w10 b9 (H : Sep ok w w10 [.blk b5 76 [.slice A1 a0.Slots.length cp2], .blk b7 76 [.slice none 0 0], .blk b9 76 [.slice none 0 0]] [RE.rd k_Slot A1 cp2 a0.Slots]) => ?_))
 refine RL_nil ?_
 refine W_seq ?_
 refine W_region ?_
 refine RL_p (x_fieldAddr fo76_0 (by rfl)) ?_
 refine RL_p (x_load (j := 0) (v := .slice none 0 0) sc74 (by rfl) (H.cells (i := 2) (by rfl)) (by rfl)) ?_
 refine RL_p (x_fieldAddr fo76_0 (by rfl)) ?_
 refine RL_p (x_load (j := 0) (v := .slice A1 a0.Slots.length cp2) sc74 (by rfl) (H.cells (i := 0) (by rfl)) (by rfl)) ?_
 have H : Sep ok w w10 [.blk b5 76 [.slice A1 a0.Slots.length cp2], .blk b7 76 [.slice none 0 0], .blk b9 76 [.slice none 0 0], .row (.slice none 0 0) 96 k_Slot.sz 0 []] [RE.rd k_Slot A1 cp2 a0.Slots, RE.chunks k_Slot [] ([])] := H.nilRowK 96 k_Slot
 obtain ⟨l17, hl18, hb19, hm⟩ := apds_some hm
 refine RL_cons (O_appendAll (D := k_Slot) (xs := ([] : List S_Slot)) (i := 3) (j := 1) (zs := a0.Slots) (by exact wn0 rfl) (by rfl) (by rfl) (by rfl) H (by rfl) (by rfl) (H.rd (i := 0) (by rfl)) hl18 sl74 sz96 by96 ze96 (by rfl) (by rfl) hb19 (by rfl) (fun w13 A14 cp15 cs16 (H : Sep ok w w13 [.blk b5 76 [.slice A1 a0.Slots.length cp2], .blk b7 76 [.slice none 0 0], .blk b9 76 [.slice none 0 0], .row (.slice A14 l17.length cp15) 96 k_Slot.sz l17.length cs16] [RE.rd k_Slot A1 cp2 a0.Slots, RE.chunks k_Slot cs16 l17]) => ?_))
 refine RL_p (x_fieldAddr fo76_0 (by rfl)) ?_
 refine RL_cons (O_store (i := 2) (off := 0) (by exact wn0 rfl) (by rfl) (by rfl) H (by rfl) (vs := [.slice A14 l17.length cp15]) (by rfl) sz74 (by rfl) (by rfl) (by rfl) (fun w20 (H : Sep ok w w20 [.blk b5 76 [.slice A1 a0.Slots.length cp2], .blk b7 76 [.slice none 0 0], .blk b9 76 [.slice A14 l17.length cp15], .row (.slice A14 l17.length cp15) 96 k_Slot.sz l17.length cs16] [RE.rd k_Slot A1 cp2 a0.Slots, RE.chunks k_Slot cs16 l17]) => ?_))
 refine RL_nil ?_
 refine W_seq ?_
 refine W_region ?_
 refine RL_p (x_loadA (j := 0) (vs := [.slice A14 l17.length cp15]) ag76 (by rfl) (H.cells (i := 2) (by rfl)) (by rfl) (by rfl)) ?_
 refine RL_cons (O_store (i := 1) (off := 0) (by exact wn0 rfl) (by rfl) (by rfl) H (by rfl) (vs := [.slice A14 l17.length cp15]) (by rfl) sz76 (by rfl) (by rfl) (by rfl) (fun w21 (H : Sep ok w w21 [.blk b5 76 [.slice A1 a0.Slots.length cp2], .blk b7 76 [.slice A14 l17.length cp15], .blk b9 76 [.slice A14 l17.length cp15], .row (.slice A14 l17.length cp15) 96 k_Slot.sz l17.length cs16] [RE.rd k_Slot A1 cp2 a0.Slots, RE.chunks k_Slot cs16 l17]) => ?_))
 refine RL_nil ?_
 refine W_ret ?_
 obtain rfl := Option.some.inj hm
 exact ⟨[.agg #[.slice A14 l17.length cp15]], (.cellA (by rfl) ag76 (H.cells (i := 1) (by rfl)) (by rfl) rfl), A14, cp15, cs16, rfl, (H.pickL [3] (by decide)).pick [1]⟩
end Go.Proofs.YtobkigllalbkiaaV.M

/- A plain Lean function that answers as the Go function does (none: not told), and the proof that a call answers so. Written by program. -/
set_option linter.unusedVariables false
namespace Go.Proofs.YtobkigllalbkiaaV.M
open Go.RowKit Go.Proofs.YtobkigllalbkiaaV
def m48_l1b (K : Nat) (a0 : S_Graph) (v14 : S_Arena) (rec1 : (List (List S_Handle)) → Int → Option (S_Graph)) (l_row52_1 : (List (List S_Handle))) (y4_1 : Int) : Option (S_Graph) :=
 (bif (decide (y4_1 < (a0.Kids.length : Int))) then (idx a0.Kids y4_1 fun el26 => (apds 16 ([] : List S_Handle) el26 fun l49 => (apd 24 l_row52_1 l49 fun l58 => (ck (y4_1 + 1) fun x62 => (rec1 l58 x62))))) else some (⟨v14, l_row52_1⟩ : S_Graph))
def m48_l1 (K : Nat) (a0 : S_Graph) (v14 : S_Arena) : Nat → (List (List S_Handle)) → Int → Option (S_Graph)
 | 0 => fun _ _ => none
 | k + 1 => m48_l1b K a0 v14 (m48_l1 K a0 v14 k)
/-- diorama/dioramaref06.Twin -/
def m48 (K : Nat) (a0 : S_Graph) : Option (S_Graph) :=
 ((m95 K a0.Arena).bind fun v14 => m48_l1 K a0 v14 K ([]) 0)
set_option maxRecDepth 100000 in
set_option maxHeartbeats 4000000 in
theorem c48 (ok : Okp) (K : Nat) (w : World) (a0 : S_Graph) (A1 : Option Addr) (cp2 : Nat) (A5 : Option Addr) (cp6 : Nat) (hR3 : Rd k_Slot w ok A1 cp2 a0.Arena.Slots) (hR7 : Rd (Kd.slice k_Handle) w ok A5 cp6 a0.Kids) (res : S_Graph) (hm : m48 K a0 = some res) :
  Calls Try.prog 48 #[.agg #[.slice A1 a0.Arena.Slots.length cp2, .slice A5 a0.Kids.length cp6]] w (fun e w' => ∃ (A0_ : Option Addr) (c0_ : Nat) (sA0_ : List Value), ∃ (A1_ : Option Addr) (c1_ : Nat) (sA1_ : List Value), e = .returned (tup [.agg #[.slice A0_ res.Arena.Slots.length c0_, .slice A1_ res.Kids.length c1_]]) ∧ Sep ok w w' [.row (.slice A0_ res.Arena.Slots.length c0_) 96 k_Slot.sz res.Arena.Slots.length sA0_, .row (.slice A1_ res.Kids.length c1_) 87 (Kd.slice k_Handle).sz res.Kids.length sA1_] [RE.chunks k_Slot sA0_ res.Arena.Slots, RE.chunks (Kd.slice k_Handle) sA1_ res.Kids]) := by
 refine calls_W (args := [.agg #[.slice A1 a0.Arena.Slots.length cp2, .slice A5 a0.Kids.length cp6]]) Try.func48 rfl Try.ntmps48 Try.results48 rfl fun r hr => ?_
 obtain ⟨r1, rfl⟩ := regen (r := r) [(0, .agg #[.slice A1 a0.Arena.Slots.length cp2, .slice A5 a0.Kids.length cp6])] ⟨hr 0 _ rfl, trivial⟩
 have H : Sep ok w w [] [RDS A1 cp2 a0, RDK A5 cp6 a0] := Sep.arg (Sep.arg (Sep.start ok w) (re := RE.rd k_Slot A1 cp2 a0.Arena.Slots) rfl rfl hR3) (re := RE.rd (Kd.slice k_Handle) A5 cp6 a0.Kids) rfl rfl hR7
 unfold m48 at hm
 refine W_seq ?_
 refine W_region ?_
 refine RL_cons (O_box (by exact wn0 rfl) (by rfl) (by rfl) (by rfl) H (fun w10 b9 (H : Sep ok w w10 [GRB b9 A1 cp2 A5 cp6 a0] [RDS A1 cp2 a0, RDK A5 cp6 a0]) => ?_))
 refine RL_cons (O_alloc (by exact wn0 rfl) (by rfl) ze79 (by rfl) H (fun w12 b11 (H : Sep ok w w12 [GRB b9 A1 cp2 A5 cp6 a0, .blk b11 79 [.slice none 0 0, .slice none 0 0]] [RDS A1 cp2 a0, RDK A5 cp6 a0]) => ?_))
 refine RL_nil ?_
 refine W_seq ?_
 refine W_region ?_
 refine RL_p (x_fieldAddr fo79_0 (by rfl)) ?_
 refine RL_p (x_loadA (j := 0) (vs := [.slice A1 a0.Arena.Slots.length cp2]) ag76 (by rfl) (H.cells (i := 0) (by rfl)) (by rfl) (by rfl)) ?_
 obtain ⟨v14, hv13, hm⟩ := bind_some hm
 refine RL_cons (O_call (by exact wn0 rfl) (by rfl) (by rfl) (x_callL (by rfl) (args := [.agg #[.slice A1 a0.Arena.Slots.length cp2]]) (by rfl) (cf95 _ _)) (c95 (okS ok w [GRB b9 A1 cp2 A5 cp6 a0, .blk b11 79 [.slice none 0 0, .slice none 0 0]]) K w12 a0.Arena A1 cp2 (H.rd (i := 0) (by rfl)) v14 hv13) ?_)
 rintro e w15 ⟨A16, cp17, cs18, rfl, H2⟩
 have H : Sep ok w w15 [GRB b9 A1 cp2 A5 cp6 a0, .blk b11 79 [.slice none 0 0, .slice none 0 0], .row (.slice A16 v14.Slots.length cp17) 96 k_Slot.sz v14.Slots.length cs18] [RDS A1 cp2 a0, RDK A5 cp6 a0, RE.chunks k_Slot cs18 v14.Slots] := H.call H2
 clear H2
 refine ⟨_, rfl, ?_⟩
 show RL _ _ _ _ _ _ _
 refine RL_p (x_build (vs := [(0, .agg #[.slice A16 v14.Slots.length cp17])]) (cs := [.slice A16 v14.Slots.length cp17, .slice none 0 0]) (by rfl) (by kernel_rfl)) ?_
 refine RL_cons (O_alloc (by exact wn0 rfl) (by rfl) ze79 (by rfl) H (fun w22 b21 (H : Sep ok w w22 [GRB b9 A1 cp2 A5 cp6 a0, .blk b11 79 [.slice none 0 0, .slice none 0 0], .row (.slice A16 v14.Slots.length cp17) 96 k_Slot.sz v14.Slots.length cs18, .blk b21 79 [.slice none 0 0, .slice none 0 0]] [RDS A1 cp2 a0, RDK A5 cp6 a0, RE.chunks k_Slot cs18 v14.Slots]) => ?_))
 refine RL_cons (O_store (i := 3) (off := 0) (by exact wn0 rfl) (by rfl) (by rfl) H (by rfl) (vs := [.slice A16 v14.Slots.length cp17, .slice none 0 0]) (by rfl) sz79 (by rfl) (by rfl) (by rfl) (fun w23 (H : Sep ok w w23 [GRB b9 A1 cp2 A5 cp6 a0, .blk b11 79 [.slice none 0 0, .slice none 0 0], .row (.slice A16 v14.Slots.length cp17) 96 k_Slot.sz v14.Slots.length cs18, .blk b21 79 [.slice A16 v14.Slots.length cp17, .slice none 0 0]] [RDS A1 cp2 a0, RDK A5 cp6 a0, RE.chunks k_Slot cs18 v14.Slots]) => ?_))
 refine RL_nil ?_
 refine W_seq ?_
 refine W_seq ?_
 refine W_region ?_
 refine RL_p (x_assign (v := .int .i64 0) (by rfl)) ?_
 refine RL_nil ?_
 refine W_block ?_
 refine W_loop (fun k1 r' w' => ∃ (l_row52_1 : (List (List S_Handle))), ∃ (y4_1 : Int), ∃ (A_row52_1 : Option Addr), ∃ (c_row52_1 : Nat), ∃ (cs_row52_1 : List Value), m48_l1 K a0 v14 k1 l_row52_1 y4_1 = some res ∧ Agr [(1, .pointer (some ⟨b9, 0, none⟩)), (2, .pointer (some ⟨b11, 0, none⟩)), (3, .pointer (some ⟨b21, 0, none⟩)), (4, .int .i64 y4_1)] r' ∧ Sep ok w w' [GRB b9 A1 cp2 A5 cp6 a0, .blk b11 79 [.slice none 0 0, .slice none 0 0], .row (.slice A16 v14.Slots.length cp17) 96 k_Slot.sz v14.Slots.length cs18, .blk b21 79 [.slice A16 v14.Slots.length cp17, .slice A_row52_1 l_row52_1.length c_row52_1], .row (.slice A_row52_1 l_row52_1.length c_row52_1) 87 (Kd.slice k_Handle).sz l_row52_1.length cs_row52_1] [RDS A1 cp2 a0, RDK A5 cp6 a0, RE.chunks k_Slot cs18 v14.Slots, RE.chunks (Kd.slice k_Handle) cs_row52_1 l_row52_1]) K ?_ ?_
 ·exact ⟨[], 0, none, 0, [], hm, ⟨rfl, rfl, rfl, rfl, trivial⟩, (H).nilRowK 87 (Kd.slice k_Handle)⟩
 ·rintro k1 r' w' ⟨l_row52_1, y4_1, A_row52_1, c_row52_1, cs_row52_1, hm, hA, H⟩
  obtain ⟨r24, rfl⟩ := regen _ hA; clear hA
  obtain ⟨w25, rfl⟩ : ∃ W : World, W = w' := ⟨_, rfl⟩
  cases k1 with
  | zero => exact (none_some hm).elim
  | succ k1 =>
   have hm : m48_l1b K a0 v14 (m48_l1 K a0 v14 k1) l_row52_1 y4_1 = some res := hm
   unfold m48_l1b at hm
   obtain ⟨rec1, hrec1⟩ : ∃ f, m48_l1 K a0 v14 k1 = f := ⟨_, rfl⟩
   rw [hrec1] at hm
   refine W_seq ?_
   refine W_seq ?_
   refine W_region ?_
   refine RL_p (x_move (v := .int .i64 y4_1) (by rfl)) ?_
   refine RL_p (x_fieldAddr fo79_1 (by rfl)) ?_
   refine RL_p (x_load (j := 1) (v := .slice A5 a0.Kids.length cp6) sc77 (by rfl) (H.cells (i := 0) (by rfl)) (by rfl)) ?_
   refine RL_p (x_len sl77 (by rfl)) ?_
   refine RL_p (x_lss (by rfl) (by rfl)) ?_
   refine RL_nil ?_
   refine W_cond (by rfl) (fun hb => ?_) (fun hb => ?_)
   ·have hm := cond_t hb hm
    refine W_skip ?_
    refine W_seq ?_
    refine W_block ?_
    refine W_seq ?_
    refine W_region ?_
    refine RL_p (x_assign (v := .slice none 0 0) (by rfl)) ?_
    refine RL_nil ?_
    refine W_seq ?_
    refine W_region ?_
    refine RL_p (x_move (v := .slice none 0 0) (by rfl)) ?_
    refine RL_p (x_fieldAddr fo79_1 (by rfl)) ?_
    refine RL_p (x_load (j := 1) (v := .slice A5 a0.Kids.length cp6) sc77 (by rfl) (H.cells (i := 0) (by rfl)) (by rfl)) ?_
    refine RL_p (x_move (v := .int .i64 y4_1) (by rfl)) ?_
    obtain ⟨el26, h27, h28, he29, hm⟩ := idx_some hm
    obtain ⟨g31, o32, hA30⟩ := (H.rd (i := 1) (by rfl)).addr he29
    obtain ⟨cs33, hk34, hat35, hg_cs33⟩ := (H.rd (i := 1) (by rfl)).openAt hA30 he29
    obtain ⟨A38, cp39, rfl, hR41⟩ := hk34
    have H : Sep ok w w25 [GRB b9 A1 cp2 A5 cp6 a0, .blk b11 79 [.slice none 0 0, .slice none 0 0], .row (.slice A16 v14.Slots.length cp17) 96 k_Slot.sz v14.Slots.length cs18, .blk b21 79 [.slice A16 v14.Slots.length cp17, .slice A_row52_1 l_row52_1.length c_row52_1], .row (.slice A_row52_1 l_row52_1.length c_row52_1) 87 (Kd.slice k_Handle).sz l_row52_1.length cs_row52_1] [RDS A1 cp2 a0, RDK A5 cp6 a0, RE.chunks k_Slot cs18 v14.Slots, RE.chunks (Kd.slice k_Handle) cs_row52_1 l_row52_1, RE.cells g31 (o32 + (y4_1).toNat * 1) [.slice A38 el26.length cp39]] := Sep.also H (re := RE.cells g31 (o32 + (y4_1).toNat * 1) [.slice A38 el26.length cp39]) ⟨hg_cs33, hat35⟩
    have H : Sep ok w w25 [GRB b9 A1 cp2 A5 cp6 a0, .blk b11 79 [.slice none 0 0, .slice none 0 0], .row (.slice A16 v14.Slots.length cp17) 96 k_Slot.sz v14.Slots.length cs18, .blk b21 79 [.slice A16 v14.Slots.length cp17, .slice A_row52_1 l_row52_1.length c_row52_1], .row (.slice A_row52_1 l_row52_1.length c_row52_1) 87 (Kd.slice k_Handle).sz l_row52_1.length cs_row52_1] [RDS A1 cp2 a0, RDK A5 cp6 a0, RE.chunks k_Slot cs18 v14.Slots, RE.chunks (Kd.slice k_Handle) cs_row52_1 l_row52_1, RE.cells g31 (o32 + (y4_1).toNat * 1) [.slice A38 el26.length cp39], RE.rd k_Handle A38 cp39 el26] := Sep.also H (re := RE.rd k_Handle A38 cp39 el26) hR41
    refine RL_p (x_indexAddr sl77 sz87 (by rfl) (by rfl) hA30 h27 h28) ?_
    refine RL_p (x_load (j := 0) (v := .slice A38 el26.length cp39) sc87 (by rfl) (H.cellsR (i := 4) (by rfl)) (by rfl)) ?_
    have H : Sep ok w w25 [GRB b9 A1 cp2 A5 cp6 a0, .blk b11 79 [.slice none 0 0, .slice none 0 0], .row (.slice A16 v14.Slots.length cp17) 96 k_Slot.sz v14.Slots.length cs18, .blk b21 79 [.slice A16 v14.Slots.length cp17, .slice A_row52_1 l_row52_1.length c_row52_1], .row (.slice A_row52_1 l_row52_1.length c_row52_1) 87 (Kd.slice k_Handle).sz l_row52_1.length cs_row52_1, .row (.slice none 0 0) 81 k_Handle.sz 0 []] [RDS A1 cp2 a0, RDK A5 cp6 a0, RE.chunks k_Slot cs18 v14.Slots, RE.chunks (Kd.slice k_Handle) cs_row52_1 l_row52_1, RE.cells g31 (o32 + (y4_1).toNat * 1) [.slice A38 el26.length cp39], RE.rd k_Handle A38 cp39 el26, RE.chunks k_Handle [] ([])] := H.nilRowK 81 k_Handle
    obtain ⟨l49, hl50, hb51, hm⟩ := apds_some hm
    refine RL_cons (O_appendAll (D := k_Handle) (xs := ([] : List S_Handle)) (i := 5) (j := 6) (zs := el26) (by exact wn0 rfl) (by rfl) (by rfl) (by rfl) H (by rfl) (by rfl) (H.rd (i := 5) (by rfl)) hl50 sl87 sz81 by81 ze81 (by rfl) (by rfl) hb51 (by rfl) (fun w45 A46 cp47 cs48 (H : Sep ok w w45 [GRB b9 A1 cp2 A5 cp6 a0, .blk b11 79 [.slice none 0 0, .slice none 0 0], .row (.slice A16 v14.Slots.length cp17) 96 k_Slot.sz v14.Slots.length cs18, .blk b21 79 [.slice A16 v14.Slots.length cp17, .slice A_row52_1 l_row52_1.length c_row52_1], .row (.slice A_row52_1 l_row52_1.length c_row52_1) 87 (Kd.slice k_Handle).sz l_row52_1.length cs_row52_1, .row (.slice A46 l49.length cp47) 81 k_Handle.sz l49.length cs48] [RDS A1 cp2 a0, RDK A5 cp6 a0, RE.chunks k_Slot cs18 v14.Slots, RE.chunks (Kd.slice k_Handle) cs_row52_1 l_row52_1, RE.cells g31 (o32 + (y4_1).toNat * 1) [.slice A38 el26.length cp39], RE.rd k_Handle A38 cp39 el26, RE.chunks k_Handle cs48 l49]) => ?_))
    refine RL_p (x_assign (v := .slice A46 l49.length cp47) (by rfl)) ?_
    refine RL_nil ?_
    refine W_region ?_
    refine RL_p (x_fieldAddr fo79_1 (by rfl)) ?_
    refine RL_p (x_load (j := 1) (v := .slice A_row52_1 l_row52_1.length c_row52_1) sc77 (by rfl) (H.cells (i := 3) (by rfl)) (by rfl)) ?_
    refine RL_p (x_move (v := .slice A46 l49.length cp47) (by rfl)) ?_
    refine RL_cons (O_buildSlice (vs := [(0, .slice A46 l49.length cp47)]) (cs := [.slice A46 l49.length cp47]) (by exact wn0 rfl) (by rfl) sl77 sz87 ze87 (by rfl) (by rfl) (by rfl) (by kernel_rfl) H (fun w53 b52 (H : Sep ok w w53 [GRB b9 A1 cp2 A5 cp6 a0, .blk b11 79 [.slice none 0 0, .slice none 0 0], .row (.slice A16 v14.Slots.length cp17) 96 k_Slot.sz v14.Slots.length cs18, .blk b21 79 [.slice A16 v14.Slots.length cp17, .slice A_row52_1 l_row52_1.length c_row52_1], .row (.slice A_row52_1 l_row52_1.length c_row52_1) 87 (Kd.slice k_Handle).sz l_row52_1.length cs_row52_1, .row (.slice A46 l49.length cp47) 81 k_Handle.sz l49.length cs48, .blk b52 87 [.slice A46 l49.length cp47]] [RDS A1 cp2 a0, RDK A5 cp6 a0, RE.chunks k_Slot cs18 v14.Slots, RE.chunks (Kd.slice k_Handle) cs_row52_1 l_row52_1, RE.cells g31 (o32 + (y4_1).toNat * 1) [.slice A38 el26.length cp39], RE.rd k_Handle A38 cp39 el26, RE.chunks k_Handle cs48 l49]) => ?_))
    obtain ⟨l58, hl59, hb60, hm⟩ := apd_some hm
    have H : Sep ok w w53 [GRB b9 A1 cp2 A5 cp6 a0, .blk b11 79 [.slice none 0 0, .slice none 0 0], .row (.slice A16 v14.Slots.length cp17) 96 k_Slot.sz v14.Slots.length cs18, .blk b21 79 [.slice A16 v14.Slots.length cp17, .slice A_row52_1 l_row52_1.length c_row52_1], .row (.slice A_row52_1 l_row52_1.length c_row52_1) 87 (Kd.slice k_Handle).sz l_row52_1.length cs_row52_1, .hole, .blk b52 87 [.slice A46 l49.length cp47]] [RDS A1 cp2 a0, RDK A5 cp6 a0, RE.chunks k_Slot cs18 v14.Slots, RE.chunks (Kd.slice k_Handle) cs_row52_1 l_row52_1, RE.cells g31 (o32 + (y4_1).toNat * 1) [.slice A38 el26.length cp39], RE.rd k_Handle A38 cp39 el26, RE.rd k_Handle A46 cp47 l49] := H.frozen (i := 5) (j := 6) (by rfl) (by rfl)
    refine RL_cons (O_append (D := (Kd.slice k_Handle)) (i := 4) (j := 3) (o := 0) (y := l49) (by exact wn0 rfl) (by rfl) (by rfl) (by rfl) H (by rfl) (by rfl) (H.cells (i := 6) (by rfl)) ⟨A46, cp47, rfl, H.rd (i := 6) (by rfl)⟩ hl59 sl77 sz87 by87 ze87 (by rfl) (by rfl) hb60 (by rfl) (fun w54 A55 cp56 cs57 (H : Sep ok w w54 [GRB b9 A1 cp2 A5 cp6 a0, .blk b11 79 [.slice none 0 0, .slice none 0 0], .row (.slice A16 v14.Slots.length cp17) 96 k_Slot.sz v14.Slots.length cs18, .blk b21 79 [.slice A16 v14.Slots.length cp17, .slice A_row52_1 l_row52_1.length c_row52_1], .row (.slice A55 l58.length cp56) 87 (Kd.slice k_Handle).sz l58.length cs57, .hole, .blk b52 87 [.slice A46 l49.length cp47]] [RDS A1 cp2 a0, RDK A5 cp6 a0, RE.chunks k_Slot cs18 v14.Slots, RE.chunks (Kd.slice k_Handle) cs57 l58, RE.cells g31 (o32 + (y4_1).toNat * 1) [.slice A38 el26.length cp39], RE.rd k_Handle A38 cp39 el26, RE.rd k_Handle A46 cp47 l49]) => ?_))
    refine RL_p (x_fieldAddr fo79_1 (by rfl)) ?_
    refine RL_cons (O_store (i := 3) (off := 1) (by exact wn0 rfl) (by rfl) (by rfl) H (by rfl) (vs := [.slice A55 l58.length cp56]) (by rfl) sz77 (by rfl) (by rfl) (by rfl) (fun w61 (H : Sep ok w w61 [GRB b9 A1 cp2 A5 cp6 a0, .blk b11 79 [.slice none 0 0, .slice none 0 0], .row (.slice A16 v14.Slots.length cp17) 96 k_Slot.sz v14.Slots.length cs18, .blk b21 79 [.slice A16 v14.Slots.length cp17, .slice A55 l58.length cp56], .row (.slice A55 l58.length cp56) 87 (Kd.slice k_Handle).sz l58.length cs57, .hole, .blk b52 87 [.slice A46 l49.length cp47]] [RDS A1 cp2 a0, RDK A5 cp6 a0, RE.chunks k_Slot cs18 v14.Slots, RE.chunks (Kd.slice k_Handle) cs57 l58, RE.cells g31 (o32 + (y4_1).toNat * 1) [.slice A38 el26.length cp39], RE.rd k_Handle A38 cp39 el26, RE.rd k_Handle A46 cp47 l49]) => ?_))
    refine RL_nil ?_
    refine W_region ?_
    refine RL_p (x_move (v := .int .i64 y4_1) (by rfl)) ?_
    obtain ⟨x62, ex62, qx62, ux62, hm⟩ := ck_some hm
    refine RL_p (x_add (by rfl) (by rfl) ux62) ?_
    refine RL_p (x_assign (v := .int .i64 x62) (by rfl)) ?_
    refine RL_nil ?_
    subst hrec1
    exact ⟨k1, Nat.lt_succ_self k1, l58, x62, A55, cp56, cs57, hm, ⟨rfl, rfl, rfl, rfl, trivial⟩, ((H).takeL 5).pick [0, 1, 2, 3]⟩
   ·have hm := cond_f hb hm
    refine W_exit ?_
    refine W_seq ?_
    refine W_region ?_
    refine RL_p (x_loadA (j := 0) (vs := [.slice A16 v14.Slots.length cp17, .slice A_row52_1 l_row52_1.length c_row52_1]) ag79 (by rfl) (H.cells (i := 3) (by rfl)) (by rfl) (by rfl)) ?_
    refine RL_cons (O_store (i := 1) (off := 0) (by exact wn0 rfl) (by rfl) (by rfl) H (by rfl) (vs := [.slice A16 v14.Slots.length cp17, .slice A_row52_1 l_row52_1.length c_row52_1]) (by rfl) sz79 (by rfl) (by rfl) (by rfl) (fun w63 (H : Sep ok w w63 [GRB b9 A1 cp2 A5 cp6 a0, .blk b11 79 [.slice A16 v14.Slots.length cp17, .slice A_row52_1 l_row52_1.length c_row52_1], .row (.slice A16 v14.Slots.length cp17) 96 k_Slot.sz v14.Slots.length cs18, .blk b21 79 [.slice A16 v14.Slots.length cp17, .slice A_row52_1 l_row52_1.length c_row52_1], .row (.slice A_row52_1 l_row52_1.length c_row52_1) 87 (Kd.slice k_Handle).sz l_row52_1.length cs_row52_1] [RDS A1 cp2 a0, RDK A5 cp6 a0, RE.chunks k_Slot cs18 v14.Slots, RE.chunks (Kd.slice k_Handle) cs_row52_1 l_row52_1]) => ?_))
    refine RL_nil ?_
    refine W_ret ?_
    obtain rfl := Option.some.inj hm
    exact ⟨[.agg #[.slice A16 v14.Slots.length cp17, .slice A_row52_1 l_row52_1.length c_row52_1]], (.cellA (by rfl) ag79 (H.cells (i := 1) (by rfl)) (by rfl) rfl), A16, cp17, cs18, A_row52_1, c_row52_1, cs_row52_1, rfl, (H.pickL [2, 4] (by decide)).pick [2, 3]⟩
end Go.Proofs.YtobkigllalbkiaaV.M

/- A plain Lean function that answers as the Go function does (none: not told), and the proof that a call answers so. Written by program. -/
set_option linter.unusedVariables false
namespace Go.Proofs.YtobkigllalbkiaaV.M
open Go.RowKit Go.Proofs.YtobkigllalbkiaaV
def m97_l1b (K : Nat) (v18 : S_Arena) (rec1 : Int → Option (S_Arena × S_Handle × Int)) (y6_1 : Int) : Option (S_Arena × S_Handle × Int) :=
 (bif (decide (y6_1 < (v18.Slots.length : Int))) then (idx v18.Slots y6_1 fun el30 => ((bif (!el30.Live) then (idx v18.Slots y6_1 fun el38 => some (decide (el38.Gen < 1073741824))) else some false).bind fun b37 => (bif b37 then (idx v18.Slots y6_1 fun el47 => (lete (v18.Slots.set ((y6_1).toNat) (⟨el47.Gen, true⟩ : S_Slot)) fun l56 => (idx l56 y6_1 fun el60 => (ck (el60.Gen + 1) fun x67 => (idx l56 y6_1 fun el68 => (lete (l56.set ((y6_1).toNat) (⟨x67, el68.Live⟩ : S_Slot)) fun l77 => (idx l77 y6_1 fun el82 => some ((⟨l77⟩ : S_Arena), (⟨y6_1, el82.Gen⟩ : S_Handle), 0)))))))) else (ck (y6_1 + 1) fun x91 => (rec1 x91))))) else (bif ((v18.Slots.length : Int) == 128) then some ((⟨[]⟩ : S_Arena), (⟨0, 0⟩ : S_Handle), 9) else (apd 16 v18.Slots (⟨1, true⟩ : S_Slot) fun l101 => some ((⟨l101⟩ : S_Arena), (⟨(v18.Slots.length : Int), 1⟩ : S_Handle), 0))))
def m97_l1 (K : Nat) (v18 : S_Arena) : Nat → Int → Option (S_Arena × S_Handle × Int)
 | 0 => fun _ => none
 | k + 1 => m97_l1b K v18 (m97_l1 K v18 k)
/-- diorama/dioramaref05.Make -/
def m97 (K : Nat) (a0 : S_Arena) : Option (S_Arena × S_Handle × Int) :=
 ((m127 K a0).bind fun v12 => (bif (!v12) then some ((⟨[]⟩ : S_Arena), (⟨0, 0⟩ : S_Handle), 8) else ((m95 K a0).bind fun v18 => m97_l1 K v18 K 0)))
set_option maxRecDepth 100000 in
set_option maxHeartbeats 4000000 in
theorem c97 (ok : Okp) (K : Nat) (w : World) (a0 : S_Arena) (A1 : Option Addr) (cp2 : Nat) (hR3 : Rd k_Slot w ok A1 cp2 a0.Slots) (res : S_Arena × S_Handle × Int) (hm : m97 K a0 = some res) :
  Calls Try.prog 97 #[.agg #[.slice A1 a0.Slots.length cp2]] w (fun e w' => ∃ (A0_ : Option Addr) (c0_ : Nat), e = .returned (tup [.agg #[.slice A0_ res.1.Slots.length c0_], .agg #[.int .i64 res.2.1.Slot, .int .i64 res.2.1.Gen], .int .i64 res.2.2]) ∧ Sep ok w w' [] [RE.rd k_Slot A0_ c0_ res.1.Slots]) := by
 refine calls_W (args := [.agg #[.slice A1 a0.Slots.length cp2]]) Try.func97 rfl Try.ntmps97 Try.results97 rfl fun r hr => ?_
 obtain ⟨r1, rfl⟩ := regen (r := r) [(0, .agg #[.slice A1 a0.Slots.length cp2])] ⟨hr 0 _ rfl, trivial⟩
 have H : Sep ok w w [] [RE.rd k_Slot A1 cp2 a0.Slots] := Sep.arg (Sep.start ok w) (re := RE.rd k_Slot A1 cp2 a0.Slots) rfl rfl hR3
 unfold m97 at hm
 refine W_seq ?_
 refine W_region ?_
 refine RL_cons (O_box (by exact wn0 rfl) (by rfl) (by rfl) (by rfl) H (fun w6 b5 (H : Sep ok w w6 [.blk b5 76 [.slice A1 a0.Slots.length cp2]] [RE.rd k_Slot A1 cp2 a0.Slots]) => ?_))
 refine RL_cons (O_alloc (by exact wn0 rfl) (by rfl) ze76 (by rfl) H (fun w8 b7 (H : Sep ok w w8 [.blk b5 76 [.slice A1 a0.Slots.length cp2], .blk b7 76 [.slice none 0 0]] [RE.rd k_Slot A1 cp2 a0.Slots]) => ?_))
 refine RL_cons (O_alloc (by exact wn0 rfl) (by rfl) ze81 (by rfl) H (fun w10 b9 (H : Sep ok w w10 [.blk b5 76 [.slice A1 a0.Slots.length cp2], .blk b7 76 [.slice none 0 0], .blk b9 81 [.int .i64 0, .int .i64 0]] [RE.rd k_Slot A1 cp2 a0.Slots]) => ?_))
 refine RL_p (x_assign (v := .int .i64 0) (by rfl)) ?_
 refine RL_nil ?_
 refine W_seq ?_
 refine W_seq ?_
 refine W_region ?_
 refine RL_p (x_loadA (j := 0) (vs := [.slice A1 a0.Slots.length cp2]) ag76 (by rfl) (H.cells (i := 0) (by rfl)) (by rfl) (by rfl)) ?_
 obtain ⟨v12, hv11, hm⟩ := bind_some hm
 refine RL_cons (O_call (by exact wn0 rfl) (by rfl) (by rfl) (x_callL (by rfl) (args := [.agg #[.slice A1 a0.Slots.length cp2]]) (by rfl) (cf127 _ _)) (c127 okT K w10 a0 A1 cp2 (H.rd (i := 0) (by rfl)).any v12 hv11) ?_)
 rintro e w13 ⟨rfl, H2⟩
 have H : Sep ok w w13 [.blk b5 76 [.slice A1 a0.Slots.length cp2], .blk b7 76 [.slice none 0 0], .blk b9 81 [.int .i64 0, .int .i64 0]] [RE.rd k_Slot A1 cp2 a0.Slots] := H.below H2.base
 clear H2
 refine ⟨_, rfl, ?_⟩
 show RL _ _ _ _ _ _ _
 refine RL_p (x_not (by rfl)) ?_
 refine RL_nil ?_
 refine W_cond (by rfl) (fun hb => ?_) (fun hb => ?_)
 ·have hm := cond_t hb hm
  refine W_seq ?_
  refine W_region ?_
  refine RL_p (x_build (vs := []) (cs := [.slice none 0 0]) (by rfl) (by kernel_rfl)) ?_
  refine RL_p (x_build (vs := []) (cs := [.int .i64 0, .int .i64 0]) (by rfl) (by kernel_rfl)) ?_
  refine RL_cons (O_store (i := 1) (off := 0) (by exact wn0 rfl) (by rfl) (by rfl) H (by rfl) (vs := [.slice none 0 0]) (by rfl) sz76 (by rfl) (by rfl) (by rfl) (fun w14 (H : Sep ok w w14 [.blk b5 76 [.slice A1 a0.Slots.length cp2], .blk b7 76 [.slice none 0 0], .blk b9 81 [.int .i64 0, .int .i64 0]] [RE.rd k_Slot A1 cp2 a0.Slots]) => ?_))
  refine RL_cons (O_store (i := 2) (off := 0) (by exact wn0 rfl) (by rfl) (by rfl) H (by rfl) (vs := [.int .i64 0, .int .i64 0]) (by rfl) sz81 (by rfl) (by rfl) (by rfl) (fun w15 (H : Sep ok w w15 [.blk b5 76 [.slice A1 a0.Slots.length cp2], .blk b7 76 [.slice none 0 0], .blk b9 81 [.int .i64 0, .int .i64 0]] [RE.rd k_Slot A1 cp2 a0.Slots]) => ?_))
  refine RL_p (x_assign (v := .int .i64 8) (by rfl)) ?_
  refine RL_nil ?_
  refine W_ret ?_
  have H : Sep ok w w15 [.blk b5 76 [.slice A1 a0.Slots.length cp2], .blk b7 76 [.slice none 0 0], .blk b9 81 [.int .i64 0, .int .i64 0]] [RE.rd k_Slot A1 cp2 a0.Slots, RE.rd k_Slot none 0 ([])] := Sep.also H (re := RE.rd k_Slot none 0 ([])) (Rd.nil (by decide))
  obtain rfl := Option.some.inj hm
  exact ⟨[.agg #[.slice none 0 0], .agg #[.int .i64 0, .int .i64 0], .int .i64 8], (.cellA (by rfl) ag76 (H.cells (i := 1) (by rfl)) (by rfl) (.cellA (by rfl) ag81 (H.cells (i := 2) (by rfl)) (by rfl) (.tmp (by rfl) rfl))), none, 0, rfl, (H.forgetAll).pick [1]⟩
 ·have hm := cond_f hb hm
  refine W_skip ?_
  refine W_seq ?_
  refine W_region ?_
  refine RL_p (x_loadA (j := 0) (vs := [.slice A1 a0.Slots.length cp2]) ag76 (by rfl) (H.cells (i := 0) (by rfl)) (by rfl) (by rfl)) ?_
  obtain ⟨v18, hv17, hm⟩ := bind_some hm
  refine RL_cons (O_call (by exact wn0 rfl) (by rfl) (by rfl) (x_callL (by rfl) (args := [.agg #[.slice A1 a0.Slots.length cp2]]) (by rfl) (cf95 _ _)) (c95 (okS ok w [.blk b5 76 [.slice A1 a0.Slots.length cp2], .blk b7 76 [.slice none 0 0], .blk b9 81 [.int .i64 0, .int .i64 0]]) K w13 a0 A1 cp2 (H.rd (i := 0) (by rfl)) v18 hv17) ?_)
  rintro e w19 ⟨A20, cp21, cs22, rfl, H2⟩
  have H : Sep ok w w19 [.blk b5 76 [.slice A1 a0.Slots.length cp2], .blk b7 76 [.slice none 0 0], .blk b9 81 [.int .i64 0, .int .i64 0], .row (.slice A20 v18.Slots.length cp21) 96 k_Slot.sz v18.Slots.length cs22] [RE.rd k_Slot A1 cp2 a0.Slots, RE.chunks k_Slot cs22 v18.Slots] := H.call H2
  clear H2
  refine ⟨_, rfl, ?_⟩
  show RL _ _ _ _ _ _ _
  refine RL_cons (O_alloc (by exact wn0 rfl) (by rfl) ze76 (by rfl) H (fun w26 b25 (H : Sep ok w w26 [.blk b5 76 [.slice A1 a0.Slots.length cp2], .blk b7 76 [.slice none 0 0], .blk b9 81 [.int .i64 0, .int .i64 0], .row (.slice A20 v18.Slots.length cp21) 96 k_Slot.sz v18.Slots.length cs22, .blk b25 76 [.slice none 0 0]] [RE.rd k_Slot A1 cp2 a0.Slots, RE.chunks k_Slot cs22 v18.Slots]) => ?_))
  refine RL_cons (O_store (i := 4) (off := 0) (by exact wn0 rfl) (by rfl) (by rfl) H (by rfl) (vs := [.slice A20 v18.Slots.length cp21]) (by rfl) sz76 (by rfl) (by rfl) (by rfl) (fun w27 (H : Sep ok w w27 [.blk b5 76 [.slice A1 a0.Slots.length cp2], .blk b7 76 [.slice none 0 0], .blk b9 81 [.int .i64 0, .int .i64 0], .row (.slice A20 v18.Slots.length cp21) 96 k_Slot.sz v18.Slots.length cs22, .blk b25 76 [.slice A20 v18.Slots.length cp21]] [RE.rd k_Slot A1 cp2 a0.Slots, RE.chunks k_Slot cs22 v18.Slots]) => ?_))
  refine RL_nil ?_
  refine W_seq ?_
  refine W_seq ?_
  refine W_region ?_
  refine RL_p (x_assign (v := .int .i64 0) (by rfl)) ?_
  refine RL_nil ?_
  refine W_block ?_
  refine W_loop (fun k1 r' w' => ∃ (y6_1 : Int), m97_l1 K v18 k1 y6_1 = some res ∧ Agr [(2, .pointer (some ⟨b7, 0, none⟩)), (3, .pointer (some ⟨b9, 0, none⟩)), (5, .pointer (some ⟨b25, 0, none⟩)), (6, .int .i64 y6_1)] r' ∧ Sep ok w w' [.blk b5 76 [.slice A1 a0.Slots.length cp2], .blk b7 76 [.slice none 0 0], .blk b9 81 [.int .i64 0, .int .i64 0], .row (.slice A20 v18.Slots.length cp21) 96 k_Slot.sz v18.Slots.length cs22, .blk b25 76 [.slice A20 v18.Slots.length cp21]] [RE.rd k_Slot A1 cp2 a0.Slots, RE.chunks k_Slot cs22 v18.Slots]) K ?_ ?_
  ·exact ⟨0, hm, ⟨rfl, rfl, rfl, rfl, trivial⟩, H⟩
  ·rintro k1 r' w' ⟨y6_1, hm, hA, H⟩
   obtain ⟨r28, rfl⟩ := regen _ hA; clear hA
   obtain ⟨w29, rfl⟩ : ∃ W : World, W = w' := ⟨_, rfl⟩
   cases k1 with
   | zero => exact (none_some hm).elim
   | succ k1 =>
    have hm : m97_l1b K v18 (m97_l1 K v18 k1) y6_1 = some res := hm
    unfold m97_l1b at hm
    obtain ⟨rec1, hrec1⟩ : ∃ f, m97_l1 K v18 k1 = f := ⟨_, rfl⟩
    rw [hrec1] at hm
    refine W_seq ?_
    refine W_seq ?_
    refine W_region ?_
    refine RL_p (x_move (v := .int .i64 y6_1) (by rfl)) ?_
    refine RL_p (x_fieldAddr fo76_0 (by rfl)) ?_
    refine RL_p (x_load (j := 0) (v := .slice A20 v18.Slots.length cp21) sc74 (by rfl) (H.cells (i := 4) (by rfl)) (by rfl)) ?_
    refine RL_p (x_len sl74 (by rfl)) ?_
    refine RL_p (x_lss (by rfl) (by rfl)) ?_
    refine RL_nil ?_
    refine W_cond (by rfl) (fun hb => ?_) (fun hb => ?_)
    ·have hm := cond_t hb hm
     refine W_skip ?_
     refine W_seq ?_
     refine W_block ?_
     refine W_seq ?_
     refine W_region ?_
     refine RL_p (x_fieldAddr fo76_0 (by rfl)) ?_
     refine RL_p (x_load (j := 0) (v := .slice A20 v18.Slots.length cp21) sc74 (by rfl) (H.cells (i := 4) (by rfl)) (by rfl)) ?_
     refine RL_p (x_move (v := .int .i64 y6_1) (by rfl)) ?_
     obtain ⟨el30, h31, h32, he33, hm⟩ := idx_some hm
     obtain ⟨g35, _, hA34, _, _⟩ := H.rowIdx (i := 3) (j := 1) (by rfl) (by rfl) he33
     refine RL_p (x_indexAddr sl74 sz96 (by rfl) (by rfl) hA34 h31 h32) ?_
     refine RL_p (x_fieldAddr fo96_1 (by rfl)) ?_
     refine RL_p (x_load (j := 1) (v := .bool el30.Live) sc4 (by rfl) (H.rowFlatAt (n := 2) (i := 3) (j := 1) (by rfl) (by rfl) hA34 he33) (by rfl)) ?_
     refine RL_p (x_not (by rfl)) ?_
     refine RL_p (x_move (v := .bool (!el30.Live)) (by rfl)) ?_
     obtain ⟨b37, hmS, hm⟩ := bind_some hm
     refine RL_cut 8 (fun r' w' => Agr [(37, .bool b37), (2, .pointer (some ⟨b7, 0, none⟩)), (3, .pointer (some ⟨b9, 0, none⟩)), (5, .pointer (some ⟨b25, 0, none⟩)), (6, .int .i64 y6_1)] r' ∧ Sep ok w w' [.blk b5 76 [.slice A1 a0.Slots.length cp2], .blk b7 76 [.slice none 0 0], .blk b9 81 [.int .i64 0, .int .i64 0], .row (.slice A20 v18.Slots.length cp21) 96 k_Slot.sz v18.Slots.length cs22, .blk b25 76 [.slice A20 v18.Slots.length cp21]] [RE.rd k_Slot A1 cp2 a0.Slots, RE.chunks k_Slot cs22 v18.Slots]) ?_ ?_
     ·cases hbS : (!el30.Live)
      ·have hm := cond_f hbS hmS
       refine RL_cons (OpR_off (by exact wn2 rfl rfl rfl rfl) (by rfl) (by rfl) ?_)
       refine RL_cons (OpR_off (by exact wn2 rfl rfl rfl rfl) (by rfl) (by rfl) ?_)
       refine RL_cons (OpR_off (by exact wn2 rfl rfl rfl rfl) (by rfl) (by rfl) ?_)
       refine RL_cons (OpR_off (by exact wn2 rfl rfl rfl rfl) (by rfl) (by rfl) ?_)
       refine RL_cons (OpR_off (by exact wn2 rfl rfl rfl rfl) (by rfl) (by rfl) ?_)
       refine RL_cons (OpR_off (by exact wn2 rfl rfl rfl rfl) (by rfl) (by rfl) ?_)
       refine RL_cons (OpR_off (by exact wn2 rfl rfl rfl rfl) (by rfl) (by rfl) ?_)
       refine RL_p (x_pick_f (v := .bool false) (by rfl) (by rfl)) ?_
       refine RL_nil ?_
       exact ⟨⟨congrArg Value.bool (Option.some.inj hm), rfl, rfl, rfl, rfl, trivial⟩, H⟩
      ·have hm := cond_t hbS hmS
       refine RL_pure (by exact wn1 rfl rfl rfl rfl) (by rfl) (by rfl) (x_fieldAddr fo76_0 (by rfl)) ?_
       refine RL_pure (by exact wn1 rfl rfl rfl rfl) (by rfl) (by rfl) (x_load (j := 0) (v := .slice A20 v18.Slots.length cp21) sc74 (by rfl) (H.cells (i := 4) (by rfl)) (by rfl)) ?_
       refine RL_pure (by exact wn1 rfl rfl rfl rfl) (by rfl) (by rfl) (x_move (v := .int .i64 y6_1) (by rfl)) ?_
       obtain ⟨el38, h39, h40, he41, hm⟩ := idx_some hm
       obtain ⟨g43, _, hA42, _, _⟩ := H.rowIdx (i := 3) (j := 1) (by rfl) (by rfl) he41
       refine RL_pure (by exact wn1 rfl rfl rfl rfl) (by rfl) (by rfl) (x_indexAddr sl74 sz96 (by rfl) (by rfl) hA42 h39 h40) ?_
       refine RL_pure (by exact wn1 rfl rfl rfl rfl) (by rfl) (by rfl) (x_fieldAddr fo96_0 (by rfl)) ?_
       refine RL_pure (by exact wn1 rfl rfl rfl rfl) (by rfl) (by rfl) (x_load (j := 0) (v := .int .i64 el38.Gen) sc3 (by rfl) (H.rowFlatAt (n := 2) (i := 3) (j := 1) (by rfl) (by rfl) hA42 he41) (by rfl)) ?_
       refine RL_pure (by exact wn1 rfl rfl rfl rfl) (by rfl) (by rfl) (x_lss (by rfl) (by rfl)) ?_
       refine RL_p (x_pick_t (v := .bool (decide (el38.Gen < 1073741824))) (by rfl) (by rfl)) ?_
       refine RL_nil ?_
       exact ⟨⟨congrArg Value.bool (Option.some.inj hm), rfl, rfl, rfl, rfl, trivial⟩, H⟩
     ·rintro r' w' ⟨hA, H⟩
      obtain ⟨r45, rfl⟩ := regen _ hA; clear hA
      obtain ⟨w46, rfl⟩ : ∃ W : World, W = w' := ⟨_, rfl⟩
      show RL _ _ _ _ _ _ _
      refine RL_nil ?_
      refine W_cond (by rfl) (fun hb => ?_) (fun hb => ?_)
      ·have hm := cond_t hb hm
       refine W_seq ?_
       refine W_region ?_
       refine RL_p (x_fieldAddr fo76_0 (by rfl)) ?_
       refine RL_p (x_load (j := 0) (v := .slice A20 v18.Slots.length cp21) sc74 (by rfl) (H.cells (i := 4) (by rfl)) (by rfl)) ?_
       refine RL_p (x_move (v := .int .i64 y6_1) (by rfl)) ?_
       obtain ⟨el47, h48, h49, he50, hm⟩ := idx_some hm
       obtain ⟨g52, _, hA51, _, _⟩ := H.rowIdx (i := 3) (j := 1) (by rfl) (by rfl) he50
       refine RL_p (x_indexAddr sl74 sz96 (by rfl) (by rfl) hA51 h48 h49) ?_
       refine RL_p (x_fieldAddr fo96_1 (by rfl)) ?_
       obtain ⟨l56, hl57, hm⟩ := lete_some hm
       refine RL_cons (O_storeRow (D := k_Slot) (i := 3) (j := 1) (off := 1) (m := y6_1) (a := el47) (b := (⟨el47.Gen, true⟩ : S_Slot)) (vs := [.bool true]) (by exact wn0 rfl) H (by rfl) (by rfl) hA51 (by rfl) (by rfl) he50 (by rfl) sz4 (by rfl) (by rfl) (by intro ce hce; obtain rfl := hce; rfl) hl57 (fun w54 cs55 (H : Sep ok w w54 [.blk b5 76 [.slice A1 a0.Slots.length cp2], .blk b7 76 [.slice none 0 0], .blk b9 81 [.int .i64 0, .int .i64 0], .row (.slice A20 l56.length cp21) 96 k_Slot.sz l56.length cs55, .blk b25 76 [.slice A20 v18.Slots.length cp21]] [RE.rd k_Slot A1 cp2 a0.Slots, RE.chunks k_Slot cs55 l56]) => ?_))
       refine RL_nil ?_
       have hn58 : v18.Slots.length = l56.length := by rw [← hl57]; exact (List.length_set ..).symm
       have H : Sep ok w w54 [.blk b5 76 [.slice A1 a0.Slots.length cp2], .blk b7 76 [.slice none 0 0], .blk b9 81 [.int .i64 0, .int .i64 0], .row (.slice A20 l56.length cp21) 96 k_Slot.sz l56.length cs55, .blk b25 76 [.slice A20 l56.length cp21]] [RE.rd k_Slot A1 cp2 a0.Slots, RE.chunks k_Slot cs55 l56] := by (try rw [hn58] at H); exact H
       refine W_regen (l := [(2, .pointer (some ⟨b7, 0, none⟩)), (3, .pointer (some ⟨b9, 0, none⟩)), (5, .pointer (some ⟨b25, 0, none⟩)), (6, .int .i64 y6_1)]) ⟨rfl, rfl, rfl, rfl, trivial⟩ fun r59 => ?_
       refine W_seq ?_
       refine W_region ?_
       refine RL_p (x_fieldAddr fo76_0 (by rfl)) ?_
       refine RL_p (x_load (j := 0) (v := .slice A20 l56.length cp21) sc74 (by rfl) (H.cells (i := 4) (by rfl)) (by rfl)) ?_
       refine RL_p (x_move (v := .int .i64 y6_1) (by rfl)) ?_
       obtain ⟨el60, h61, h62, he63, hm⟩ := idx_some hm
       obtain ⟨g65, _, hA64, _, _⟩ := H.rowIdx (i := 3) (j := 1) (by rfl) (by rfl) he63
       refine RL_p (x_indexAddr sl74 sz96 (by rfl) (by rfl) hA64 h61 h62) ?_
       refine RL_p (x_fieldAddr fo96_0 (by rfl)) ?_
       refine RL_p (x_load (j := 0) (v := .int .i64 el60.Gen) sc3 (by rfl) (H.rowFlatAt (n := 2) (i := 3) (j := 1) (by rfl) (by rfl) hA64 he63) (by rfl)) ?_
       obtain ⟨x67, ex67, qx67, ux67, hm⟩ := ck_some hm
       refine RL_p (x_add (by rfl) (by rfl) ux67) ?_
       obtain ⟨el68, h69, h70, he71, hm⟩ := idx_some hm
       obtain ⟨g73, _, hA72, _, _⟩ := H.rowIdx (i := 3) (j := 1) (by rfl) (by rfl) he71
       refine RL_p (x_indexAddr sl74 sz96 (by rfl) (by rfl) hA72 h69 h70) ?_
       refine RL_p (x_fieldAddr fo96_0 (by rfl)) ?_
       obtain ⟨l77, hl78, hm⟩ := lete_some hm
       refine RL_cons (O_storeRow (D := k_Slot) (i := 3) (j := 1) (off := 0) (m := y6_1) (a := el68) (b := (⟨x67, el68.Live⟩ : S_Slot)) (vs := [.int .i64 x67]) (by exact wn0 rfl) H (by rfl) (by rfl) hA72 (by rfl) (by rfl) he71 (by rfl) sz3 (by rfl) (by rfl) (by intro ce hce; obtain rfl := hce; rfl) hl78 (fun w75 cs76 (H : Sep ok w w75 [.blk b5 76 [.slice A1 a0.Slots.length cp2], .blk b7 76 [.slice none 0 0], .blk b9 81 [.int .i64 0, .int .i64 0], .row (.slice A20 l77.length cp21) 96 k_Slot.sz l77.length cs76, .blk b25 76 [.slice A20 l56.length cp21]] [RE.rd k_Slot A1 cp2 a0.Slots, RE.chunks k_Slot cs76 l77]) => ?_))
       refine RL_nil ?_
       have hn79 : l56.length = l77.length := by rw [← hl78]; exact (List.length_set ..).symm
       have H : Sep ok w w75 [.blk b5 76 [.slice A1 a0.Slots.length cp2], .blk b7 76 [.slice none 0 0], .blk b9 81 [.int .i64 0, .int .i64 0], .row (.slice A20 l77.length cp21) 96 k_Slot.sz l77.length cs76, .blk b25 76 [.slice A20 l77.length cp21]] [RE.rd k_Slot A1 cp2 a0.Slots, RE.chunks k_Slot cs76 l77] := by (try rw [hn79] at H); exact H
       refine W_regen (l := [(2, .pointer (some ⟨b7, 0, none⟩)), (3, .pointer (some ⟨b9, 0, none⟩)), (5, .pointer (some ⟨b25, 0, none⟩)), (6, .int .i64 y6_1)]) ⟨rfl, rfl, rfl, rfl, trivial⟩ fun r80 => ?_
       refine W_seq ?_
       refine W_draw [.take 0, .free 1, .free 2, .take 3, .free 4, .free 5, .free 6, .take 7, .free 8, .run 9, .tail 10, .free 11] (fun wS => Sep ok w wS [.blk b5 76 [.slice A1 a0.Slots.length cp2], .hole, .blk b9 81 [.int .i64 0, .int .i64 0], .row (.slice A20 l77.length cp21) 96 k_Slot.sz l77.length cs76, .blk b25 76 [.slice A20 l77.length cp21]] [RE.rd k_Slot A1 cp2 a0.Slots, RE.chunks k_Slot cs76 l77]) [10] [1, 2, 4, 5, 6, 8, 11] mixed0 (by kernel_rfl) (by kernel_rfl) (by kernel_rfl) (by rfl) (by exact (Sep.holeL H.drew 1)) ?_
       obtain ⟨w81, hW⟩ : ∃ W : World, W = { w75 with drawn := w75.drawn + 1 } := ⟨_, rfl⟩
       rw [← hW]
       have H : Sep ok w w81 [.blk b5 76 [.slice A1 a0.Slots.length cp2], .blk b7 76 [.slice none 0 0], .blk b9 81 [.int .i64 0, .int .i64 0], .row (.slice A20 l77.length cp21) 96 k_Slot.sz l77.length cs76, .blk b25 76 [.slice A20 l77.length cp21]] [RE.rd k_Slot A1 cp2 a0.Slots, RE.chunks k_Slot cs76 l77] := by rw [hW]; exact H.drew
       clear hW
       refine PR_take (by rfl) (by rfl) (by rfl) (by exact wn0 rfl) (fun wS (H : Sep ok w wS [.blk b5 76 [.slice A1 a0.Slots.length cp2], .hole, .blk b9 81 [.int .i64 0, .int .i64 0], .row (.slice A20 l77.length cp21) 96 k_Slot.sz l77.length cs76, .blk b25 76 [.slice A20 l77.length cp21]] [RE.rd k_Slot A1 cp2 a0.Slots, RE.chunks k_Slot cs76 l77]) => (x_loadA (j := 0) (vs := [.slice A20 l77.length cp21]) ag76 (by rfl) (H.cells (i := 4) (by rfl)) (by rfl) (by rfl))) ?_
       refine PR_free (by rfl) (by rfl) (by rfl) (by exact wn0 rfl) (fun wS => (x_move (v := .int .i64 y6_1) (by rfl))) ?_
       refine PR_free (by rfl) (by rfl) (by rfl) (by exact wn0 rfl) (fun wS => (x_fieldAddr fo76_0 (by rfl))) ?_
       refine PR_take (by rfl) (by rfl) (by rfl) (by exact wn0 rfl) (fun wS (H : Sep ok w wS [.blk b5 76 [.slice A1 a0.Slots.length cp2], .hole, .blk b9 81 [.int .i64 0, .int .i64 0], .row (.slice A20 l77.length cp21) 96 k_Slot.sz l77.length cs76, .blk b25 76 [.slice A20 l77.length cp21]] [RE.rd k_Slot A1 cp2 a0.Slots, RE.chunks k_Slot cs76 l77]) => (x_load (j := 0) (v := .slice A20 l77.length cp21) sc74 (by rfl) (H.cells (i := 4) (by rfl)) (by rfl))) ?_
       refine PR_free (by rfl) (by rfl) (by rfl) (by exact wn0 rfl) (fun wS => (x_move (v := .int .i64 y6_1) (by rfl))) ?_
       obtain ⟨el82, h83, h84, he85, hm⟩ := idx_some hm
       obtain ⟨g87, _, hA86, _, _⟩ := H.rowIdx (i := 3) (j := 1) (by rfl) (by rfl) he85
       refine PR_free (by rfl) (by rfl) (by rfl) (by exact wn0 rfl) (fun wS => (x_indexAddr sl74 sz96 (by rfl) (by rfl) hA86 h83 h84)) ?_
       refine PR_free (by rfl) (by rfl) (by rfl) (by exact wn0 rfl) (fun wS => (x_fieldAddr fo96_0 (by rfl))) ?_
       refine PR_take (by rfl) (by rfl) (by rfl) (by exact wn0 rfl) (fun wS (H : Sep ok w wS [.blk b5 76 [.slice A1 a0.Slots.length cp2], .hole, .blk b9 81 [.int .i64 0, .int .i64 0], .row (.slice A20 l77.length cp21) 96 k_Slot.sz l77.length cs76, .blk b25 76 [.slice A20 l77.length cp21]] [RE.rd k_Slot A1 cp2 a0.Slots, RE.chunks k_Slot cs76 l77]) => (x_load (j := 0) (v := .int .i64 el82.Gen) sc3 (by rfl) (H.rowFlatAt (n := 2) (i := 3) (j := 1) (by rfl) (by rfl) hA86 he85) (by rfl))) ?_
       refine PR_free (by rfl) (by rfl) (by rfl) (by exact wn0 rfl) (fun wS => (x_build (vs := [(0, .int .i64 y6_1), (1, .int .i64 el82.Gen)]) (cs := [.int .i64 y6_1, .int .i64 el82.Gen]) (by rfl) (by kernel_rfl))) ?_
       refine PR_run (by rfl) (O_store (i := 1) (off := 0) (by exact wn0 rfl) (by rfl) (by rfl) H (by rfl) (vs := [.slice A20 l77.length cp21]) (by rfl) sz76 (by rfl) (by rfl) (by rfl) (fun w89 (H : Sep ok w w89 [.blk b5 76 [.slice A1 a0.Slots.length cp2], .blk b7 76 [.slice A20 l77.length cp21], .blk b9 81 [.int .i64 0, .int .i64 0], .row (.slice A20 l77.length cp21) 96 k_Slot.sz l77.length cs76, .blk b25 76 [.slice A20 l77.length cp21]] [RE.rd k_Slot A1 cp2 a0.Slots, RE.chunks k_Slot cs76 l77]) => ⟨(Sep.holeL H 1), ?_⟩))
       refine PR_tail (by rfl) (O_store (i := 2) (off := 0) (by exact wn0 rfl) (by rfl) (by rfl) H (by rfl) (vs := [.int .i64 y6_1, .int .i64 el82.Gen]) (by rfl) sz81 (by rfl) (by rfl) (by rfl) (fun w90 (H : Sep ok w w90 [.blk b5 76 [.slice A1 a0.Slots.length cp2], .blk b7 76 [.slice A20 l77.length cp21], .blk b9 81 [.int .i64 y6_1, .int .i64 el82.Gen], .row (.slice A20 l77.length cp21) 96 k_Slot.sz l77.length cs76, .blk b25 76 [.slice A20 l77.length cp21]] [RE.rd k_Slot A1 cp2 a0.Slots, RE.chunks k_Slot cs76 l77]) => ?_))
       refine PR_free (by rfl) (by rfl) (by rfl) (by exact wn0 rfl) (fun wS => (x_assign (v := .int .i64 0) (by rfl))) ?_
       refine PR_nil ?_
       refine W_ret ?_
       have H : Sep ok w w90 [.blk b5 76 [.slice A1 a0.Slots.length cp2], .blk b7 76 [.slice A20 l77.length cp21], .blk b9 81 [.int .i64 y6_1, .int .i64 el82.Gen], .hole, .blk b25 76 [.slice A20 l77.length cp21]] [RE.rd k_Slot A1 cp2 a0.Slots, RE.rd k_Slot A20 cp21 l77] := H.frozen (i := 3) (j := 1) (by rfl) (by rfl)
       obtain rfl := Option.some.inj hm
       exact ⟨[.agg #[.slice A20 l77.length cp21], .agg #[.int .i64 y6_1, .int .i64 el82.Gen], .int .i64 0], (.cellA (by rfl) ag76 (H.cells (i := 1) (by rfl)) (by rfl) (.cellA (by rfl) ag81 (H.cells (i := 2) (by rfl)) (by rfl) (.tmp (by rfl) rfl))), A20, cp21, rfl, (H.forgetAll).pick [1]⟩
      ·have hm := cond_f hb hm
       refine W_skip ?_
       refine W_region ?_
       refine RL_p (x_move (v := .int .i64 y6_1) (by rfl)) ?_
       obtain ⟨x91, ex91, qx91, ux91, hm⟩ := ck_some hm
       refine RL_p (x_add (by rfl) (by rfl) ux91) ?_
       refine RL_p (x_assign (v := .int .i64 x91) (by rfl)) ?_
       refine RL_nil ?_
       subst hrec1
       exact ⟨k1, Nat.lt_succ_self k1, x91, hm, ⟨rfl, rfl, rfl, rfl, trivial⟩, H⟩
    ·have hm := cond_f hb hm
     refine W_exit ?_
     refine W_seq ?_
     refine W_region ?_
     refine RL_p (x_fieldAddr fo76_0 (by rfl)) ?_
     refine RL_p (x_load (j := 0) (v := .slice A20 v18.Slots.length cp21) sc74 (by rfl) (H.cells (i := 4) (by rfl)) (by rfl)) ?_
     refine RL_p (x_len sl74 (by rfl)) ?_
     refine RL_p (x_assign (v := .int .i64 (v18.Slots.length : Int)) (by rfl)) ?_
     refine RL_nil ?_
     refine W_seq ?_
     refine W_seq ?_
     refine W_region ?_
     refine RL_p (x_move (v := .int .i64 (v18.Slots.length : Int)) (by rfl)) ?_
     refine RL_p (x_eql (by rfl) (by rfl)) ?_
     refine RL_nil ?_
     refine W_cond (by rfl) (fun hb => ?_) (fun hb => ?_)
     ·have hm := cond_t hb hm
      refine W_seq ?_
      refine W_region ?_
      refine RL_p (x_build (vs := []) (cs := [.slice none 0 0]) (by rfl) (by kernel_rfl)) ?_
      refine RL_p (x_build (vs := []) (cs := [.int .i64 0, .int .i64 0]) (by rfl) (by kernel_rfl)) ?_
      refine RL_cons (O_store (i := 1) (off := 0) (by exact wn0 rfl) (by rfl) (by rfl) H (by rfl) (vs := [.slice none 0 0]) (by rfl) sz76 (by rfl) (by rfl) (by rfl) (fun w92 (H : Sep ok w w92 [.blk b5 76 [.slice A1 a0.Slots.length cp2], .blk b7 76 [.slice none 0 0], .blk b9 81 [.int .i64 0, .int .i64 0], .row (.slice A20 v18.Slots.length cp21) 96 k_Slot.sz v18.Slots.length cs22, .blk b25 76 [.slice A20 v18.Slots.length cp21]] [RE.rd k_Slot A1 cp2 a0.Slots, RE.chunks k_Slot cs22 v18.Slots]) => ?_))
      refine RL_cons (O_store (i := 2) (off := 0) (by exact wn0 rfl) (by rfl) (by rfl) H (by rfl) (vs := [.int .i64 0, .int .i64 0]) (by rfl) sz81 (by rfl) (by rfl) (by rfl) (fun w93 (H : Sep ok w w93 [.blk b5 76 [.slice A1 a0.Slots.length cp2], .blk b7 76 [.slice none 0 0], .blk b9 81 [.int .i64 0, .int .i64 0], .row (.slice A20 v18.Slots.length cp21) 96 k_Slot.sz v18.Slots.length cs22, .blk b25 76 [.slice A20 v18.Slots.length cp21]] [RE.rd k_Slot A1 cp2 a0.Slots, RE.chunks k_Slot cs22 v18.Slots]) => ?_))
      refine RL_p (x_assign (v := .int .i64 9) (by rfl)) ?_
      refine RL_nil ?_
      refine W_ret ?_
      have H : Sep ok w w93 [.blk b5 76 [.slice A1 a0.Slots.length cp2], .blk b7 76 [.slice none 0 0], .blk b9 81 [.int .i64 0, .int .i64 0], .row (.slice A20 v18.Slots.length cp21) 96 k_Slot.sz v18.Slots.length cs22, .blk b25 76 [.slice A20 v18.Slots.length cp21]] [RE.rd k_Slot A1 cp2 a0.Slots, RE.chunks k_Slot cs22 v18.Slots, RE.rd k_Slot none 0 ([])] := Sep.also H (re := RE.rd k_Slot none 0 ([])) (Rd.nil (by decide))
      obtain rfl := Option.some.inj hm
      exact ⟨[.agg #[.slice none 0 0], .agg #[.int .i64 0, .int .i64 0], .int .i64 9], (.cellA (by rfl) ag76 (H.cells (i := 1) (by rfl)) (by rfl) (.cellA (by rfl) ag81 (H.cells (i := 2) (by rfl)) (by rfl) (.tmp (by rfl) rfl))), none, 0, rfl, (H.forgetAll).pick [2]⟩
     ·have hm := cond_f hb hm
      refine W_skip ?_
      refine W_seq ?_
      refine W_region ?_
      refine RL_p (x_fieldAddr fo76_0 (by rfl)) ?_
      refine RL_p (x_load (j := 0) (v := .slice A20 v18.Slots.length cp21) sc74 (by rfl) (H.cells (i := 4) (by rfl)) (by rfl)) ?_
      refine RL_p (x_build (vs := [(0, .int .i64 1), (1, .bool true)]) (cs := [.int .i64 1, .bool true]) (by rfl) (by kernel_rfl)) ?_
      refine RL_cons (O_buildSlice (vs := [(0, .agg #[.int .i64 1, .bool true])]) (cs := [.int .i64 1, .bool true]) (by exact wn0 rfl) (by rfl) sl74 sz96 ze96 (by rfl) (by rfl) (by rfl) (by kernel_rfl) H (fun w96 b95 (H : Sep ok w w96 [.blk b5 76 [.slice A1 a0.Slots.length cp2], .blk b7 76 [.slice none 0 0], .blk b9 81 [.int .i64 0, .int .i64 0], .row (.slice A20 v18.Slots.length cp21) 96 k_Slot.sz v18.Slots.length cs22, .blk b25 76 [.slice A20 v18.Slots.length cp21], .blk b95 96 [.int .i64 1, .bool true]] [RE.rd k_Slot A1 cp2 a0.Slots, RE.chunks k_Slot cs22 v18.Slots]) => ?_))
      obtain ⟨l101, hl102, hb103, hm⟩ := apd_some hm
      refine RL_cons (O_append (D := k_Slot) (i := 3) (j := 1) (o := 0) (y := (⟨1, true⟩ : S_Slot)) (by exact wn0 rfl) (by rfl) (by rfl) (by rfl) H (by rfl) (by rfl) (H.cells (i := 5) (by rfl)) rfl hl102 sl74 sz96 by96 ze96 (by rfl) (by rfl) hb103 (by rfl) (fun w97 A98 cp99 cs100 (H : Sep ok w w97 [.blk b5 76 [.slice A1 a0.Slots.length cp2], .blk b7 76 [.slice none 0 0], .blk b9 81 [.int .i64 0, .int .i64 0], .row (.slice A98 l101.length cp99) 96 k_Slot.sz l101.length cs100, .blk b25 76 [.slice A20 v18.Slots.length cp21], .blk b95 96 [.int .i64 1, .bool true]] [RE.rd k_Slot A1 cp2 a0.Slots, RE.chunks k_Slot cs100 l101]) => ?_))
      refine RL_p (x_fieldAddr fo76_0 (by rfl)) ?_
      refine RL_cons (O_store (i := 4) (off := 0) (by exact wn0 rfl) (by rfl) (by rfl) H (by rfl) (vs := [.slice A98 l101.length cp99]) (by rfl) sz74 (by rfl) (by rfl) (by rfl) (fun w104 (H : Sep ok w w104 [.blk b5 76 [.slice A1 a0.Slots.length cp2], .blk b7 76 [.slice none 0 0], .blk b9 81 [.int .i64 0, .int .i64 0], .row (.slice A98 l101.length cp99) 96 k_Slot.sz l101.length cs100, .blk b25 76 [.slice A98 l101.length cp99], .blk b95 96 [.int .i64 1, .bool true]] [RE.rd k_Slot A1 cp2 a0.Slots, RE.chunks k_Slot cs100 l101]) => ?_))
      refine RL_nil ?_
      refine W_seq ?_
      refine W_region ?_
      refine RL_p (x_loadA (j := 0) (vs := [.slice A98 l101.length cp99]) ag76 (by rfl) (H.cells (i := 4) (by rfl)) (by rfl) (by rfl)) ?_
      refine RL_p (x_move (v := .int .i64 (v18.Slots.length : Int)) (by rfl)) ?_
      refine RL_p (x_build (vs := [(0, .int .i64 (v18.Slots.length : Int)), (1, .int .i64 1)]) (cs := [.int .i64 (v18.Slots.length : Int), .int .i64 1]) (by rfl) (by kernel_rfl)) ?_
      refine RL_cons (O_store (i := 1) (off := 0) (by exact wn0 rfl) (by rfl) (by rfl) H (by rfl) (vs := [.slice A98 l101.length cp99]) (by rfl) sz76 (by rfl) (by rfl) (by rfl) (fun w105 (H : Sep ok w w105 [.blk b5 76 [.slice A1 a0.Slots.length cp2], .blk b7 76 [.slice A98 l101.length cp99], .blk b9 81 [.int .i64 0, .int .i64 0], .row (.slice A98 l101.length cp99) 96 k_Slot.sz l101.length cs100, .blk b25 76 [.slice A98 l101.length cp99], .blk b95 96 [.int .i64 1, .bool true]] [RE.rd k_Slot A1 cp2 a0.Slots, RE.chunks k_Slot cs100 l101]) => ?_))
      refine RL_cons (O_store (i := 2) (off := 0) (by exact wn0 rfl) (by rfl) (by rfl) H (by rfl) (vs := [.int .i64 (v18.Slots.length : Int), .int .i64 1]) (by rfl) sz81 (by rfl) (by rfl) (by rfl) (fun w106 (H : Sep ok w w106 [.blk b5 76 [.slice A1 a0.Slots.length cp2], .blk b7 76 [.slice A98 l101.length cp99], .blk b9 81 [.int .i64 (v18.Slots.length : Int), .int .i64 1], .row (.slice A98 l101.length cp99) 96 k_Slot.sz l101.length cs100, .blk b25 76 [.slice A98 l101.length cp99], .blk b95 96 [.int .i64 1, .bool true]] [RE.rd k_Slot A1 cp2 a0.Slots, RE.chunks k_Slot cs100 l101]) => ?_))
      refine RL_p (x_assign (v := .int .i64 0) (by rfl)) ?_
      refine RL_nil ?_
      refine W_ret ?_
      have H : Sep ok w w106 [.blk b5 76 [.slice A1 a0.Slots.length cp2], .blk b7 76 [.slice A98 l101.length cp99], .blk b9 81 [.int .i64 (v18.Slots.length : Int), .int .i64 1], .hole, .blk b25 76 [.slice A98 l101.length cp99], .blk b95 96 [.int .i64 1, .bool true]] [RE.rd k_Slot A1 cp2 a0.Slots, RE.rd k_Slot A98 cp99 l101] := H.frozen (i := 3) (j := 1) (by rfl) (by rfl)
      obtain rfl := Option.some.inj hm
      exact ⟨[.agg #[.slice A98 l101.length cp99], .agg #[.int .i64 (v18.Slots.length : Int), .int .i64 1], .int .i64 0], (.cellA (by rfl) ag76 (H.cells (i := 1) (by rfl)) (by rfl) (.cellA (by rfl) ag81 (H.cells (i := 2) (by rfl)) (by rfl) (.tmp (by rfl) rfl))), A98, cp99, rfl, (H.forgetAll).pick [1]⟩
end Go.Proofs.YtobkigllalbkiaaV.M

/- A plain Lean function that answers as the Go function does (none: not told), and the proof that a call answers so. Written by program. -/
set_option linter.unusedVariables false
namespace Go.Proofs.YtobkigllalbkiaaV.M
open Go.RowKit Go.Proofs.YtobkigllalbkiaaV
def m49_j1 (K : Nat) (v23 : S_Arena × S_Handle × Int) (l_row49_1 : (List (List S_Handle))) : Option (S_Graph × S_Handle × Int) :=
 some ((⟨v23.1, l_row49_1⟩ : S_Graph), v23.2.1, 0)
/-- diorama/dioramaref06.Make -/
def m49 (K : Nat) (a0 : S_Graph) : Option (S_Graph × S_Handle × Int) :=
 ((m96 K a0).bind fun v16 => (bif (!v16) then some ((⟨(⟨[]⟩ : S_Arena), []⟩ : S_Graph), (⟨0, 0⟩ : S_Handle), 8) else ((m97 K a0.Arena).bind fun v23 => (bif (v23.2.2 != 0) then some ((⟨(⟨[]⟩ : S_Arena), []⟩ : S_Graph), (⟨0, 0⟩ : S_Handle), v23.2.2) else ((m48 K a0).bind fun v39 => (bif (decide ((v39.Kids.length : Int) < (v23.1.Slots.length : Int))) then (apd 24 v39.Kids ([]) fun l61 => (m49_j1 K v23 l61)) else (m49_j1 K v23 v39.Kids)))))))
set_option maxRecDepth 100000 in
set_option maxHeartbeats 4000000 in
theorem c49 (ok : Okp) (K : Nat) (w : World) (a0 : S_Graph) (A1 : Option Addr) (cp2 : Nat) (A5 : Option Addr) (cp6 : Nat) (hR3 : Rd k_Slot w ok A1 cp2 a0.Arena.Slots) (hR7 : Rd (Kd.slice k_Handle) w ok A5 cp6 a0.Kids) (res : S_Graph × S_Handle × Int) (hm : m49 K a0 = some res) :
  Calls Try.prog 49 #[.agg #[.slice A1 a0.Arena.Slots.length cp2, .slice A5 a0.Kids.length cp6]] w (fun e w' => ∃ (A0_ : Option Addr) (c0_ : Nat), ∃ (A1_ : Option Addr) (c1_ : Nat), e = .returned (tup [.agg #[.slice A0_ res.1.Arena.Slots.length c0_, .slice A1_ res.1.Kids.length c1_], .agg #[.int .i64 res.2.1.Slot, .int .i64 res.2.1.Gen], .int .i64 res.2.2]) ∧ Sep ok w w' [] [RDS A0_ c0_ res.1, RDK A1_ c1_ res.1]) := by
 refine calls_W (args := [.agg #[.slice A1 a0.Arena.Slots.length cp2, .slice A5 a0.Kids.length cp6]]) Try.func49 rfl Try.ntmps49 Try.results49 rfl fun r hr => ?_
 obtain ⟨r1, rfl⟩ := regen (r := r) [(0, .agg #[.slice A1 a0.Arena.Slots.length cp2, .slice A5 a0.Kids.length cp6])] ⟨hr 0 _ rfl, trivial⟩
 have H : Sep ok w w [] [RDS A1 cp2 a0, RDK A5 cp6 a0] := Sep.arg (Sep.arg (Sep.start ok w) (re := RE.rd k_Slot A1 cp2 a0.Arena.Slots) rfl rfl hR3) (re := RE.rd (Kd.slice k_Handle) A5 cp6 a0.Kids) rfl rfl hR7
 unfold m49 at hm
 refine W_seq ?_
 refine W_region ?_
 refine RL_cons (O_box (by exact wn0 rfl) (by rfl) (by rfl) (by rfl) H (fun w10 b9 (H : Sep ok w w10 [GRB b9 A1 cp2 A5 cp6 a0] [RDS A1 cp2 a0, RDK A5 cp6 a0]) => ?_))
 refine RL_cons (O_alloc (by exact wn0 rfl) (by rfl) ze79 (by rfl) H (fun w12 b11 (H : Sep ok w w12 [GRB b9 A1 cp2 A5 cp6 a0, .blk b11 79 [.slice none 0 0, .slice none 0 0]] [RDS A1 cp2 a0, RDK A5 cp6 a0]) => ?_))
 refine RL_cons (O_alloc (by exact wn0 rfl) (by rfl) ze81 (by rfl) H (fun w14 b13 (H : Sep ok w w14 [GRB b9 A1 cp2 A5 cp6 a0, .blk b11 79 [.slice none 0 0, .slice none 0 0], .blk b13 81 [.int .i64 0, .int .i64 0]] [RDS A1 cp2 a0, RDK A5 cp6 a0]) => ?_))
 refine RL_p (x_assign (v := .int .i64 0) (by rfl)) ?_
 refine RL_nil ?_
 refine W_seq ?_
 refine W_seq ?_
 refine W_region ?_
 refine RL_p (x_loadA (j := 0) (vs := [.slice A1 a0.Arena.Slots.length cp2, .slice A5 a0.Kids.length cp6]) ag79 (by rfl) (H.cells (i := 0) (by rfl)) (by rfl) (by rfl)) ?_
 obtain ⟨v16, hv15, hm⟩ := bind_some hm
 refine RL_cons (O_call (by exact wn0 rfl) (by rfl) (by rfl) (x_callL (by rfl) (args := [.agg #[.slice A1 a0.Arena.Slots.length cp2, .slice A5 a0.Kids.length cp6]]) (by rfl) (cf96 _ _)) (c96 okT K w14 a0 A1 cp2 A5 cp6 (H.rd (i := 0) (by rfl)).any (H.rd (i := 1) (by rfl)).any v16 hv15) ?_)
 rintro e w17 ⟨rfl, H2⟩
 have H : Sep ok w w17 [GRB b9 A1 cp2 A5 cp6 a0, .blk b11 79 [.slice none 0 0, .slice none 0 0], .blk b13 81 [.int .i64 0, .int .i64 0]] [RDS A1 cp2 a0, RDK A5 cp6 a0] := H.below H2.base
 clear H2
 refine ⟨_, rfl, ?_⟩
 show RL _ _ _ _ _ _ _
 refine RL_p (x_not (by rfl)) ?_
 refine RL_nil ?_
 refine W_cond (by rfl) (fun hb => ?_) (fun hb => ?_)
 ·have hm := cond_t hb hm
  refine W_seq ?_
  refine W_region ?_
  refine RL_p (x_build (vs := []) (cs := [.slice none 0 0, .slice none 0 0]) (by rfl) (by kernel_rfl)) ?_
  refine RL_p (x_build (vs := []) (cs := [.int .i64 0, .int .i64 0]) (by rfl) (by kernel_rfl)) ?_
  refine RL_cons (O_store (i := 1) (off := 0) (by exact wn0 rfl) (by rfl) (by rfl) H (by rfl) (vs := [.slice none 0 0, .slice none 0 0]) (by rfl) sz79 (by rfl) (by rfl) (by rfl) (fun w18 (H : Sep ok w w18 [GRB b9 A1 cp2 A5 cp6 a0, .blk b11 79 [.slice none 0 0, .slice none 0 0], .blk b13 81 [.int .i64 0, .int .i64 0]] [RDS A1 cp2 a0, RDK A5 cp6 a0]) => ?_))
  refine RL_cons (O_store (i := 2) (off := 0) (by exact wn0 rfl) (by rfl) (by rfl) H (by rfl) (vs := [.int .i64 0, .int .i64 0]) (by rfl) sz81 (by rfl) (by rfl) (by rfl) (fun w19 (H : Sep ok w w19 [GRB b9 A1 cp2 A5 cp6 a0, .blk b11 79 [.slice none 0 0, .slice none 0 0], .blk b13 81 [.int .i64 0, .int .i64 0]] [RDS A1 cp2 a0, RDK A5 cp6 a0]) => ?_))
  refine RL_p (x_assign (v := .int .i64 8) (by rfl)) ?_
  refine RL_nil ?_
  refine W_ret ?_
  have H : Sep ok w w19 [GRB b9 A1 cp2 A5 cp6 a0, .blk b11 79 [.slice none 0 0, .slice none 0 0], .blk b13 81 [.int .i64 0, .int .i64 0]] [RDS A1 cp2 a0, RDK A5 cp6 a0, RE.rd k_Slot none 0 ([])] := Sep.also H (re := RE.rd k_Slot none 0 ([])) (Rd.nil (by decide))
  have H : Sep ok w w19 [GRB b9 A1 cp2 A5 cp6 a0, .blk b11 79 [.slice none 0 0, .slice none 0 0], .blk b13 81 [.int .i64 0, .int .i64 0]] [RDS A1 cp2 a0, RDK A5 cp6 a0, RE.rd k_Slot none 0 ([]), RE.rd (Kd.slice k_Handle) none 0 ([])] := Sep.also H (re := RE.rd (Kd.slice k_Handle) none 0 ([])) (Rd.nil (by decide))
  obtain rfl := Option.some.inj hm
  exact ⟨[.agg #[.slice none 0 0, .slice none 0 0], .agg #[.int .i64 0, .int .i64 0], .int .i64 8], (.cellA (by rfl) ag79 (H.cells (i := 1) (by rfl)) (by rfl) (.cellA (by rfl) ag81 (H.cells (i := 2) (by rfl)) (by rfl) (.tmp (by rfl) rfl))), none, 0, none, 0, rfl, (H.forgetAll).pick [2, 3]⟩
 ·have hm := cond_f hb hm
  refine W_skip ?_
  refine W_seq ?_
  refine W_region ?_
  refine RL_p (x_fieldAddr fo79_0 (by rfl)) ?_
  refine RL_p (x_loadA (j := 0) (vs := [.slice A1 a0.Arena.Slots.length cp2]) ag76 (by rfl) (H.cells (i := 0) (by rfl)) (by rfl) (by rfl)) ?_
  obtain ⟨v23, hv22, hm⟩ := bind_some hm
  refine RL_cons (O_call (by exact wn0 rfl) (by rfl) (by rfl) (x_callL (by rfl) (args := [.agg #[.slice A1 a0.Arena.Slots.length cp2]]) (by rfl) (cf97 _ _)) (c97 (okS ok w [GRB b9 A1 cp2 A5 cp6 a0, .blk b11 79 [.slice none 0 0, .slice none 0 0], .blk b13 81 [.int .i64 0, .int .i64 0]]) K w17 a0.Arena A1 cp2 (H.rd (i := 0) (by rfl)) v23 hv22) ?_)
  rintro e w24 ⟨A25, cp26, rfl, H2⟩
  have H : Sep ok w w24 [GRB b9 A1 cp2 A5 cp6 a0, .blk b11 79 [.slice none 0 0, .slice none 0 0], .blk b13 81 [.int .i64 0, .int .i64 0]] [RDS A1 cp2 a0, RDK A5 cp6 a0, RE.rd k_Slot A25 cp26 v23.1.Slots] := H.call H2
  clear H2
  refine ⟨_, rfl, ?_⟩
  show RL _ _ _ _ _ _ _
  refine RL_p (x_move (v := tup [.agg #[.slice A25 v23.1.Slots.length cp26], .agg #[.int .i64 v23.2.1.Slot, .int .i64 v23.2.1.Gen], .int .i64 v23.2.2]) (by rfl)) ?_
  refine RL_p (x_extract (v := .agg #[.slice A25 v23.1.Slots.length cp26]) (by rfl) (by rfl)) ?_
  refine RL_p (x_extract (v := .agg #[.int .i64 v23.2.1.Slot, .int .i64 v23.2.1.Gen]) (by rfl) (by rfl)) ?_
  refine RL_p (x_extract (v := .int .i64 v23.2.2) (by rfl) (by rfl)) ?_
  refine RL_cons (O_alloc (by exact wn0 rfl) (by rfl) ze76 (by rfl) H (fun w29 b28 (H : Sep ok w w29 [GRB b9 A1 cp2 A5 cp6 a0, .blk b11 79 [.slice none 0 0, .slice none 0 0], .blk b13 81 [.int .i64 0, .int .i64 0], .blk b28 76 [.slice none 0 0]] [RDS A1 cp2 a0, RDK A5 cp6 a0, RE.rd k_Slot A25 cp26 v23.1.Slots]) => ?_))
  refine RL_cons (O_alloc (by exact wn0 rfl) (by rfl) ze81 (by rfl) H (fun w31 b30 (H : Sep ok w w31 [GRB b9 A1 cp2 A5 cp6 a0, .blk b11 79 [.slice none 0 0, .slice none 0 0], .blk b13 81 [.int .i64 0, .int .i64 0], .blk b28 76 [.slice none 0 0], .blk b30 81 [.int .i64 0, .int .i64 0]] [RDS A1 cp2 a0, RDK A5 cp6 a0, RE.rd k_Slot A25 cp26 v23.1.Slots]) => ?_))
  refine RL_cons (O_store (i := 3) (off := 0) (by exact wn0 rfl) (by rfl) (by rfl) H (by rfl) (vs := [.slice A25 v23.1.Slots.length cp26]) (by rfl) sz76 (by rfl) (by rfl) (by rfl) (fun w32 (H : Sep ok w w32 [GRB b9 A1 cp2 A5 cp6 a0, .blk b11 79 [.slice none 0 0, .slice none 0 0], .blk b13 81 [.int .i64 0, .int .i64 0], .blk b28 76 [.slice A25 v23.1.Slots.length cp26], .blk b30 81 [.int .i64 0, .int .i64 0]] [RDS A1 cp2 a0, RDK A5 cp6 a0, RE.rd k_Slot A25 cp26 v23.1.Slots]) => ?_))
  refine RL_cons (O_store (i := 4) (off := 0) (by exact wn0 rfl) (by rfl) (by rfl) H (by rfl) (vs := [.int .i64 v23.2.1.Slot, .int .i64 v23.2.1.Gen]) (by rfl) sz81 (by rfl) (by rfl) (by rfl) (fun w33 (H : Sep ok w w33 [GRB b9 A1 cp2 A5 cp6 a0, .blk b11 79 [.slice none 0 0, .slice none 0 0], .blk b13 81 [.int .i64 0, .int .i64 0], .blk b28 76 [.slice A25 v23.1.Slots.length cp26], HNB b30 v23.2.1] [RDS A1 cp2 a0, RDK A5 cp6 a0, RE.rd k_Slot A25 cp26 v23.1.Slots]) => ?_))
  refine RL_p (x_assign (v := .int .i64 v23.2.2) (by rfl)) ?_
  refine RL_nil ?_
  refine W_seq ?_
  refine W_seq ?_
  refine W_region ?_
  refine RL_p (x_move (v := .int .i64 v23.2.2) (by rfl)) ?_
  refine RL_p (x_neq (by rfl) (by rfl)) ?_
  refine RL_nil ?_
  refine W_cond (by rfl) (fun hb => ?_) (fun hb => ?_)
  ·have hm := cond_t hb hm
   refine W_seq ?_
   refine W_region ?_
   refine RL_p (x_build (vs := []) (cs := [.slice none 0 0, .slice none 0 0]) (by rfl) (by kernel_rfl)) ?_
   refine RL_p (x_build (vs := []) (cs := [.int .i64 0, .int .i64 0]) (by rfl) (by kernel_rfl)) ?_
   refine RL_p (x_move (v := .int .i64 v23.2.2) (by rfl)) ?_
   refine RL_cons (O_store (i := 1) (off := 0) (by exact wn0 rfl) (by rfl) (by rfl) H (by rfl) (vs := [.slice none 0 0, .slice none 0 0]) (by rfl) sz79 (by rfl) (by rfl) (by rfl) (fun w34 (H : Sep ok w w34 [GRB b9 A1 cp2 A5 cp6 a0, .blk b11 79 [.slice none 0 0, .slice none 0 0], .blk b13 81 [.int .i64 0, .int .i64 0], .blk b28 76 [.slice A25 v23.1.Slots.length cp26], HNB b30 v23.2.1] [RDS A1 cp2 a0, RDK A5 cp6 a0, RE.rd k_Slot A25 cp26 v23.1.Slots]) => ?_))
   refine RL_cons (O_store (i := 2) (off := 0) (by exact wn0 rfl) (by rfl) (by rfl) H (by rfl) (vs := [.int .i64 0, .int .i64 0]) (by rfl) sz81 (by rfl) (by rfl) (by rfl) (fun w35 (H : Sep ok w w35 [GRB b9 A1 cp2 A5 cp6 a0, .blk b11 79 [.slice none 0 0, .slice none 0 0], .blk b13 81 [.int .i64 0, .int .i64 0], .blk b28 76 [.slice A25 v23.1.Slots.length cp26], HNB b30 v23.2.1] [RDS A1 cp2 a0, RDK A5 cp6 a0, RE.rd k_Slot A25 cp26 v23.1.Slots]) => ?_))
   refine RL_p (x_assign (v := .int .i64 v23.2.2) (by rfl)) ?_
   refine RL_nil ?_
   refine W_ret ?_
   have H : Sep ok w w35 [GRB b9 A1 cp2 A5 cp6 a0, .blk b11 79 [.slice none 0 0, .slice none 0 0], .blk b13 81 [.int .i64 0, .int .i64 0], .blk b28 76 [.slice A25 v23.1.Slots.length cp26], HNB b30 v23.2.1] [RDS A1 cp2 a0, RDK A5 cp6 a0, RE.rd k_Slot A25 cp26 v23.1.Slots, RE.rd k_Slot none 0 ([])] := Sep.also H (re := RE.rd k_Slot none 0 ([])) (Rd.nil (by decide))
   have H : Sep ok w w35 [GRB b9 A1 cp2 A5 cp6 a0, .blk b11 79 [.slice none 0 0, .slice none 0 0], .blk b13 81 [.int .i64 0, .int .i64 0], .blk b28 76 [.slice A25 v23.1.Slots.length cp26], HNB b30 v23.2.1] [RDS A1 cp2 a0, RDK A5 cp6 a0, RE.rd k_Slot A25 cp26 v23.1.Slots, RE.rd k_Slot none 0 ([]), RE.rd (Kd.slice k_Handle) none 0 ([])] := Sep.also H (re := RE.rd (Kd.slice k_Handle) none 0 ([])) (Rd.nil (by decide))
   obtain rfl := Option.some.inj hm
   exact ⟨[.agg #[.slice none 0 0, .slice none 0 0], .agg #[.int .i64 0, .int .i64 0], .int .i64 v23.2.2], (.cellA (by rfl) ag79 (H.cells (i := 1) (by rfl)) (by rfl) (.cellA (by rfl) ag81 (H.cells (i := 2) (by rfl)) (by rfl) (.tmp (by rfl) rfl))), none, 0, none, 0, rfl, (H.forgetAll).pick [3, 4]⟩
  ·have hm := cond_f hb hm
   refine W_skip ?_
   refine W_seq ?_
   refine W_region ?_
   refine RL_p (x_loadA (j := 0) (vs := [.slice A1 a0.Arena.Slots.length cp2, .slice A5 a0.Kids.length cp6]) ag79 (by rfl) (H.cells (i := 0) (by rfl)) (by rfl) (by rfl)) ?_
   obtain ⟨v39, hv38, hm⟩ := bind_some hm
   refine RL_cons (O_call (by exact wn0 rfl) (by rfl) (by rfl) (x_callL (by rfl) (args := [.agg #[.slice A1 a0.Arena.Slots.length cp2, .slice A5 a0.Kids.length cp6]]) (by rfl) (cf48 _ _)) (c48 (okS ok w [GRB b9 A1 cp2 A5 cp6 a0, .blk b11 79 [.slice none 0 0, .slice none 0 0], .blk b13 81 [.int .i64 0, .int .i64 0], .blk b28 76 [.slice A25 v23.1.Slots.length cp26], HNB b30 v23.2.1]) K w33 a0 A1 cp2 A5 cp6 (H.rd (i := 0) (by rfl)) (H.rd (i := 1) (by rfl)) v39 hv38) ?_)
   rintro e w40 ⟨A41, cp42, cs43, A46, cp47, cs48, rfl, H2⟩
   have H : Sep ok w w40 [GRB b9 A1 cp2 A5 cp6 a0, .blk b11 79 [.slice none 0 0, .slice none 0 0], .blk b13 81 [.int .i64 0, .int .i64 0], .blk b28 76 [.slice A25 v23.1.Slots.length cp26], HNB b30 v23.2.1, .row (.slice A41 v39.Arena.Slots.length cp42) 96 k_Slot.sz v39.Arena.Slots.length cs43, .row (.slice A46 v39.Kids.length cp47) 87 (Kd.slice k_Handle).sz v39.Kids.length cs48] [RDS A1 cp2 a0, RDK A5 cp6 a0, RE.rd k_Slot A25 cp26 v23.1.Slots, RE.chunks k_Slot cs43 v39.Arena.Slots, RE.chunks (Kd.slice k_Handle) cs48 v39.Kids] := H.call H2
   clear H2
   refine ⟨_, rfl, ?_⟩
   show RL _ _ _ _ _ _ _
   refine RL_cons (O_alloc (by exact wn0 rfl) (by rfl) ze79 (by rfl) H (fun w52 b51 (H : Sep ok w w52 [GRB b9 A1 cp2 A5 cp6 a0, .blk b11 79 [.slice none 0 0, .slice none 0 0], .blk b13 81 [.int .i64 0, .int .i64 0], .blk b28 76 [.slice A25 v23.1.Slots.length cp26], HNB b30 v23.2.1, .row (.slice A41 v39.Arena.Slots.length cp42) 96 k_Slot.sz v39.Arena.Slots.length cs43, .row (.slice A46 v39.Kids.length cp47) 87 (Kd.slice k_Handle).sz v39.Kids.length cs48, .blk b51 79 [.slice none 0 0, .slice none 0 0]] [RDS A1 cp2 a0, RDK A5 cp6 a0, RE.rd k_Slot A25 cp26 v23.1.Slots, RE.chunks k_Slot cs43 v39.Arena.Slots, RE.chunks (Kd.slice k_Handle) cs48 v39.Kids]) => ?_))
   refine RL_cons (O_store (i := 7) (off := 0) (by exact wn0 rfl) (by rfl) (by rfl) H (by rfl) (vs := [.slice A41 v39.Arena.Slots.length cp42, .slice A46 v39.Kids.length cp47]) (by rfl) sz79 (by rfl) (by rfl) (by rfl) (fun w53 (H : Sep ok w w53 [GRB b9 A1 cp2 A5 cp6 a0, .blk b11 79 [.slice none 0 0, .slice none 0 0], .blk b13 81 [.int .i64 0, .int .i64 0], .blk b28 76 [.slice A25 v23.1.Slots.length cp26], HNB b30 v23.2.1, .row (.slice A41 v39.Arena.Slots.length cp42) 96 k_Slot.sz v39.Arena.Slots.length cs43, .row (.slice A46 v39.Kids.length cp47) 87 (Kd.slice k_Handle).sz v39.Kids.length cs48, GRB b51 A41 cp42 A46 cp47 v39] [RDS A1 cp2 a0, RDK A5 cp6 a0, RE.rd k_Slot A25 cp26 v23.1.Slots, RE.chunks k_Slot cs43 v39.Arena.Slots, RE.chunks (Kd.slice k_Handle) cs48 v39.Kids]) => ?_))
   refine RL_nil ?_
   refine W_seq ?_
   refine W_region ?_
   refine RL_p (x_loadA (j := 0) (vs := [.slice A25 v23.1.Slots.length cp26]) ag76 (by rfl) (H.cells (i := 3) (by rfl)) (by rfl) (by rfl)) ?_
   refine RL_p (x_fieldAddr fo79_0 (by rfl)) ?_
   refine RL_cons (O_store (i := 7) (off := 0) (by exact wn0 rfl) (by rfl) (by rfl) H (by rfl) (vs := [.slice A25 v23.1.Slots.length cp26]) (by rfl) sz76 (by rfl) (by rfl) (by rfl) (fun w54 (H : Sep ok w w54 [GRB b9 A1 cp2 A5 cp6 a0, .blk b11 79 [.slice none 0 0, .slice none 0 0], .blk b13 81 [.int .i64 0, .int .i64 0], .blk b28 76 [.slice A25 v23.1.Slots.length cp26], HNB b30 v23.2.1, .row (.slice A41 v39.Arena.Slots.length cp42) 96 k_Slot.sz v39.Arena.Slots.length cs43, .row (.slice A46 v39.Kids.length cp47) 87 (Kd.slice k_Handle).sz v39.Kids.length cs48, .blk b51 79 [.slice A25 v23.1.Slots.length cp26, .slice A46 v39.Kids.length cp47]] [RDS A1 cp2 a0, RDK A5 cp6 a0, RE.rd k_Slot A25 cp26 v23.1.Slots, RE.chunks k_Slot cs43 v39.Arena.Slots, RE.chunks (Kd.slice k_Handle) cs48 v39.Kids]) => ?_))
   refine RL_nil ?_
   refine W_join (fun r' w' => ∃ (l_row49_1 : (List (List S_Handle))), ∃ (A_row49_1 : Option Addr), ∃ (c_row49_1 : Nat), ∃ (cs_row49_1 : List Value), m49_j1 K v23 l_row49_1 = some res ∧ Agr [(2, .pointer (some ⟨b11, 0, none⟩)), (3, .pointer (some ⟨b13, 0, none⟩)), (6, .pointer (some ⟨b30, 0, none⟩)), (8, .pointer (some ⟨b51, 0, none⟩))] r' ∧ Sep ok w w' [GRB b9 A1 cp2 A5 cp6 a0, .blk b11 79 [.slice none 0 0, .slice none 0 0], .blk b13 81 [.int .i64 0, .int .i64 0], .blk b28 76 [.slice A25 v23.1.Slots.length cp26], HNB b30 v23.2.1, .row (.slice A41 v39.Arena.Slots.length cp42) 96 k_Slot.sz v39.Arena.Slots.length cs43, .row (.slice A_row49_1 l_row49_1.length c_row49_1) 87 (Kd.slice k_Handle).sz l_row49_1.length cs_row49_1, .blk b51 79 [.slice A25 v23.1.Slots.length cp26, .slice A_row49_1 l_row49_1.length c_row49_1]] [RDS A1 cp2 a0, RDK A5 cp6 a0, RE.rd k_Slot A25 cp26 v23.1.Slots, RE.chunks k_Slot cs43 v39.Arena.Slots, RE.chunks (Kd.slice k_Handle) cs_row49_1 l_row49_1]) ?_ ?_
   ·show W _ _ _ _ _ _
    refine W_seq ?_
    refine W_region ?_
    refine RL_p (x_fieldAddr fo79_1 (by rfl)) ?_
    refine RL_p (x_load (j := 1) (v := .slice A46 v39.Kids.length cp47) sc77 (by rfl) (H.cells (i := 7) (by rfl)) (by rfl)) ?_
    refine RL_p (x_len sl77 (by rfl)) ?_
    refine RL_p (x_fieldAddr fo76_0 (by rfl)) ?_
    refine RL_p (x_load (j := 0) (v := .slice A25 v23.1.Slots.length cp26) sc74 (by rfl) (H.cells (i := 3) (by rfl)) (by rfl)) ?_
    refine RL_p (x_len sl74 (by rfl)) ?_
    refine RL_p (x_lss (by rfl) (by rfl)) ?_
    refine RL_nil ?_
    refine W_cond (by rfl) (fun hb => ?_) (fun hb => ?_)
    ·have hm := cond_t hb hm
     refine W_region ?_
     refine RL_p (x_fieldAddr fo79_1 (by rfl)) ?_
     refine RL_p (x_load (j := 1) (v := .slice A46 v39.Kids.length cp47) sc77 (by rfl) (H.cells (i := 7) (by rfl)) (by rfl)) ?_
     refine RL_cons (O_buildSlice (vs := [(0, .slice none 0 0)]) (cs := [.slice none 0 0]) (by exact wn0 rfl) (by rfl) sl77 sz87 ze87 (by rfl) (by rfl) (by rfl) (by kernel_rfl) H (fun w56 b55 (H : Sep ok w w56 [GRB b9 A1 cp2 A5 cp6 a0, .blk b11 79 [.slice none 0 0, .slice none 0 0], .blk b13 81 [.int .i64 0, .int .i64 0], .blk b28 76 [.slice A25 v23.1.Slots.length cp26], HNB b30 v23.2.1, .row (.slice A41 v39.Arena.Slots.length cp42) 96 k_Slot.sz v39.Arena.Slots.length cs43, .row (.slice A46 v39.Kids.length cp47) 87 (Kd.slice k_Handle).sz v39.Kids.length cs48, .blk b51 79 [.slice A25 v23.1.Slots.length cp26, .slice A46 v39.Kids.length cp47], .blk b55 87 [.slice none 0 0]] [RDS A1 cp2 a0, RDK A5 cp6 a0, RE.rd k_Slot A25 cp26 v23.1.Slots, RE.chunks k_Slot cs43 v39.Arena.Slots, RE.chunks (Kd.slice k_Handle) cs48 v39.Kids]) => ?_))
     obtain ⟨l61, hl62, hb63, hm⟩ := apd_some hm
     refine RL_cons (O_append (D := (Kd.slice k_Handle)) (i := 6) (j := 4) (o := 0) (y := ([])) (by exact wn0 rfl) (by rfl) (by rfl) (by rfl) H (by rfl) (by rfl) (H.cells (i := 8) (by rfl)) ⟨none, 0, rfl, Rd.nil (by decide)⟩ hl62 sl77 sz87 by87 ze87 (by rfl) (by rfl) hb63 (by rfl) (fun w57 A58 cp59 cs60 (H : Sep ok w w57 [GRB b9 A1 cp2 A5 cp6 a0, .blk b11 79 [.slice none 0 0, .slice none 0 0], .blk b13 81 [.int .i64 0, .int .i64 0], .blk b28 76 [.slice A25 v23.1.Slots.length cp26], HNB b30 v23.2.1, .row (.slice A41 v39.Arena.Slots.length cp42) 96 k_Slot.sz v39.Arena.Slots.length cs43, .row (.slice A58 l61.length cp59) 87 (Kd.slice k_Handle).sz l61.length cs60, .blk b51 79 [.slice A25 v23.1.Slots.length cp26, .slice A46 v39.Kids.length cp47], .blk b55 87 [.slice none 0 0]] [RDS A1 cp2 a0, RDK A5 cp6 a0, RE.rd k_Slot A25 cp26 v23.1.Slots, RE.chunks k_Slot cs43 v39.Arena.Slots, RE.chunks (Kd.slice k_Handle) cs60 l61]) => ?_))
     refine RL_p (x_fieldAddr fo79_1 (by rfl)) ?_
     refine RL_cons (O_store (i := 7) (off := 1) (by exact wn0 rfl) (by rfl) (by rfl) H (by rfl) (vs := [.slice A58 l61.length cp59]) (by rfl) sz77 (by rfl) (by rfl) (by rfl) (fun w64 (H : Sep ok w w64 [GRB b9 A1 cp2 A5 cp6 a0, .blk b11 79 [.slice none 0 0, .slice none 0 0], .blk b13 81 [.int .i64 0, .int .i64 0], .blk b28 76 [.slice A25 v23.1.Slots.length cp26], HNB b30 v23.2.1, .row (.slice A41 v39.Arena.Slots.length cp42) 96 k_Slot.sz v39.Arena.Slots.length cs43, .row (.slice A58 l61.length cp59) 87 (Kd.slice k_Handle).sz l61.length cs60, .blk b51 79 [.slice A25 v23.1.Slots.length cp26, .slice A58 l61.length cp59], .blk b55 87 [.slice none 0 0]] [RDS A1 cp2 a0, RDK A5 cp6 a0, RE.rd k_Slot A25 cp26 v23.1.Slots, RE.chunks k_Slot cs43 v39.Arena.Slots, RE.chunks (Kd.slice k_Handle) cs60 l61]) => ?_))
     refine RL_nil ?_
     exact ⟨l61, A58, cp59, cs60, hm, ⟨rfl, rfl, rfl, rfl, trivial⟩, (H).takeL 8⟩
    ·have hm := cond_f hb hm
     refine W_skip ?_
     exact ⟨v39.Kids, A46, cp47, cs48, hm, ⟨rfl, rfl, rfl, rfl, trivial⟩, H⟩
   ·rintro r' w' ⟨l_row49_1, A_row49_1, c_row49_1, cs_row49_1, hm, hA, H⟩
    obtain ⟨r65, rfl⟩ := regen _ hA; clear hA
    obtain ⟨w66, rfl⟩ : ∃ W : World, W = w' := ⟨_, rfl⟩
    unfold m49_j1 at hm
    refine W_seq ?_
    refine W_draw [.take 0, .take 1, .run 2, .tail 3, .free 4] (fun wS => Sep ok w wS [GRB b9 A1 cp2 A5 cp6 a0, .hole, .blk b13 81 [.int .i64 0, .int .i64 0], .blk b28 76 [.slice A25 v23.1.Slots.length cp26], HNB b30 v23.2.1, .row (.slice A41 v39.Arena.Slots.length cp42) 96 k_Slot.sz v39.Arena.Slots.length cs43, .row (.slice A_row49_1 l_row49_1.length c_row49_1) 87 (Kd.slice k_Handle).sz l_row49_1.length cs_row49_1, .blk b51 79 [.slice A25 v23.1.Slots.length cp26, .slice A_row49_1 l_row49_1.length c_row49_1]] [RDS A1 cp2 a0, RDK A5 cp6 a0, RE.rd k_Slot A25 cp26 v23.1.Slots, RE.chunks k_Slot cs43 v39.Arena.Slots, RE.chunks (Kd.slice k_Handle) cs_row49_1 l_row49_1]) [3] [4] mixed0 (by kernel_rfl) (by kernel_rfl) (by kernel_rfl) (by rfl) (by exact (Sep.holeL H.drew 1)) ?_
    obtain ⟨w67, hW⟩ : ∃ W : World, W = { w66 with drawn := w66.drawn + 1 } := ⟨_, rfl⟩
    rw [← hW]
    have H : Sep ok w w67 [GRB b9 A1 cp2 A5 cp6 a0, .blk b11 79 [.slice none 0 0, .slice none 0 0], .blk b13 81 [.int .i64 0, .int .i64 0], .blk b28 76 [.slice A25 v23.1.Slots.length cp26], HNB b30 v23.2.1, .row (.slice A41 v39.Arena.Slots.length cp42) 96 k_Slot.sz v39.Arena.Slots.length cs43, .row (.slice A_row49_1 l_row49_1.length c_row49_1) 87 (Kd.slice k_Handle).sz l_row49_1.length cs_row49_1, .blk b51 79 [.slice A25 v23.1.Slots.length cp26, .slice A_row49_1 l_row49_1.length c_row49_1]] [RDS A1 cp2 a0, RDK A5 cp6 a0, RE.rd k_Slot A25 cp26 v23.1.Slots, RE.chunks k_Slot cs43 v39.Arena.Slots, RE.chunks (Kd.slice k_Handle) cs_row49_1 l_row49_1] := by rw [hW]; exact H.drew
    clear hW
    refine PR_take (by rfl) (by rfl) (by rfl) (by exact wn0 rfl) (fun wS (H : Sep ok w wS [GRB b9 A1 cp2 A5 cp6 a0, .hole, .blk b13 81 [.int .i64 0, .int .i64 0], .blk b28 76 [.slice A25 v23.1.Slots.length cp26], HNB b30 v23.2.1, .row (.slice A41 v39.Arena.Slots.length cp42) 96 k_Slot.sz v39.Arena.Slots.length cs43, .row (.slice A_row49_1 l_row49_1.length c_row49_1) 87 (Kd.slice k_Handle).sz l_row49_1.length cs_row49_1, .blk b51 79 [.slice A25 v23.1.Slots.length cp26, .slice A_row49_1 l_row49_1.length c_row49_1]] [RDS A1 cp2 a0, RDK A5 cp6 a0, RE.rd k_Slot A25 cp26 v23.1.Slots, RE.chunks k_Slot cs43 v39.Arena.Slots, RE.chunks (Kd.slice k_Handle) cs_row49_1 l_row49_1]) => (x_loadA (j := 0) (vs := [.slice A25 v23.1.Slots.length cp26, .slice A_row49_1 l_row49_1.length c_row49_1]) ag79 (by rfl) (H.cells (i := 7) (by rfl)) (by rfl) (by rfl))) ?_
    refine PR_take (by rfl) (by rfl) (by rfl) (by exact wn0 rfl) (fun wS (H : Sep ok w wS [GRB b9 A1 cp2 A5 cp6 a0, .hole, .blk b13 81 [.int .i64 0, .int .i64 0], .blk b28 76 [.slice A25 v23.1.Slots.length cp26], HNB b30 v23.2.1, .row (.slice A41 v39.Arena.Slots.length cp42) 96 k_Slot.sz v39.Arena.Slots.length cs43, .row (.slice A_row49_1 l_row49_1.length c_row49_1) 87 (Kd.slice k_Handle).sz l_row49_1.length cs_row49_1, .blk b51 79 [.slice A25 v23.1.Slots.length cp26, .slice A_row49_1 l_row49_1.length c_row49_1]] [RDS A1 cp2 a0, RDK A5 cp6 a0, RE.rd k_Slot A25 cp26 v23.1.Slots, RE.chunks k_Slot cs43 v39.Arena.Slots, RE.chunks (Kd.slice k_Handle) cs_row49_1 l_row49_1]) => (x_loadA (j := 0) (vs := [.int .i64 v23.2.1.Slot, .int .i64 v23.2.1.Gen]) ag81 (by rfl) (H.cells (i := 4) (by rfl)) (by rfl) (by rfl))) ?_
    refine PR_run (by rfl) (O_store (i := 1) (off := 0) (by exact wn0 rfl) (by rfl) (by rfl) H (by rfl) (vs := [.slice A25 v23.1.Slots.length cp26, .slice A_row49_1 l_row49_1.length c_row49_1]) (by rfl) sz79 (by rfl) (by rfl) (by rfl) (fun w68 (H : Sep ok w w68 [GRB b9 A1 cp2 A5 cp6 a0, .blk b11 79 [.slice A25 v23.1.Slots.length cp26, .slice A_row49_1 l_row49_1.length c_row49_1], .blk b13 81 [.int .i64 0, .int .i64 0], .blk b28 76 [.slice A25 v23.1.Slots.length cp26], HNB b30 v23.2.1, .row (.slice A41 v39.Arena.Slots.length cp42) 96 k_Slot.sz v39.Arena.Slots.length cs43, .row (.slice A_row49_1 l_row49_1.length c_row49_1) 87 (Kd.slice k_Handle).sz l_row49_1.length cs_row49_1, .blk b51 79 [.slice A25 v23.1.Slots.length cp26, .slice A_row49_1 l_row49_1.length c_row49_1]] [RDS A1 cp2 a0, RDK A5 cp6 a0, RE.rd k_Slot A25 cp26 v23.1.Slots, RE.chunks k_Slot cs43 v39.Arena.Slots, RE.chunks (Kd.slice k_Handle) cs_row49_1 l_row49_1]) => ⟨(Sep.holeL H 1), ?_⟩))
    refine PR_tail (by rfl) (O_store (i := 2) (off := 0) (by exact wn0 rfl) (by rfl) (by rfl) H (by rfl) (vs := [.int .i64 v23.2.1.Slot, .int .i64 v23.2.1.Gen]) (by rfl) sz81 (by rfl) (by rfl) (by rfl) (fun w69 (H : Sep ok w w69 [GRB b9 A1 cp2 A5 cp6 a0, .blk b11 79 [.slice A25 v23.1.Slots.length cp26, .slice A_row49_1 l_row49_1.length c_row49_1], HNB b13 v23.2.1, .blk b28 76 [.slice A25 v23.1.Slots.length cp26], HNB b30 v23.2.1, .row (.slice A41 v39.Arena.Slots.length cp42) 96 k_Slot.sz v39.Arena.Slots.length cs43, .row (.slice A_row49_1 l_row49_1.length c_row49_1) 87 (Kd.slice k_Handle).sz l_row49_1.length cs_row49_1, .blk b51 79 [.slice A25 v23.1.Slots.length cp26, .slice A_row49_1 l_row49_1.length c_row49_1]] [RDS A1 cp2 a0, RDK A5 cp6 a0, RE.rd k_Slot A25 cp26 v23.1.Slots, RE.chunks k_Slot cs43 v39.Arena.Slots, RE.chunks (Kd.slice k_Handle) cs_row49_1 l_row49_1]) => ?_))
    refine PR_free (by rfl) (by rfl) (by rfl) (by exact wn0 rfl) (fun wS => (x_assign (v := .int .i64 0) (by rfl))) ?_
    refine PR_nil ?_
    refine W_ret ?_
    have H : Sep ok w w69 [GRB b9 A1 cp2 A5 cp6 a0, .blk b11 79 [.slice A25 v23.1.Slots.length cp26, .slice A_row49_1 l_row49_1.length c_row49_1], HNB b13 v23.2.1, .blk b28 76 [.slice A25 v23.1.Slots.length cp26], HNB b30 v23.2.1, .row (.slice A41 v39.Arena.Slots.length cp42) 96 k_Slot.sz v39.Arena.Slots.length cs43, .hole, .blk b51 79 [.slice A25 v23.1.Slots.length cp26, .slice A_row49_1 l_row49_1.length c_row49_1]] [RDS A1 cp2 a0, RDK A5 cp6 a0, RE.rd k_Slot A25 cp26 v23.1.Slots, RE.chunks k_Slot cs43 v39.Arena.Slots, RE.rd (Kd.slice k_Handle) A_row49_1 c_row49_1 l_row49_1] := H.frozen (i := 6) (j := 4) (by rfl) (by rfl)
    obtain rfl := Option.some.inj hm
    exact ⟨[.agg #[.slice A25 v23.1.Slots.length cp26, .slice A_row49_1 l_row49_1.length c_row49_1], .agg #[.int .i64 v23.2.1.Slot, .int .i64 v23.2.1.Gen], .int .i64 0], (.cellA (by rfl) ag79 (H.cells (i := 1) (by rfl)) (by rfl) (.cellA (by rfl) ag81 (H.cells (i := 2) (by rfl)) (by rfl) (.tmp (by rfl) rfl))), A25, cp26, A_row49_1, c_row49_1, rfl, (H.forgetAll).pick [2, 4]⟩
end Go.Proofs.YtobkigllalbkiaaV.M

/- A plain Lean function that answers as the Go function does (none: not told), and the proof that a call answers so. Written by program. -/
set_option linter.unusedVariables false
namespace Go.Proofs.YtobkigllalbkiaaV.M
open Go.RowKit Go.Proofs.YtobkigllalbkiaaV
/-- diorama/dioramaref05.Kill -/
def m99 (K : Nat) (a0 : S_Arena) (a1 : S_Handle) : Option (S_Arena × Int) :=
 ((m127 K a0).bind fun v12 => (bif (!v12) then some ((⟨[]⟩ : S_Arena), 8) else ((m128 K a0 a1).bind fun v17 => (bif (!v17) then some ((⟨[]⟩ : S_Arena), 50) else ((m95 K a0).bind fun v22 => (idx v22.Slots a1.Slot fun el32 => (lete (v22.Slots.set ((a1.Slot).toNat) (⟨el32.Gen, false⟩ : S_Slot)) fun l41 => some ((⟨l41⟩ : S_Arena), 0))))))))
set_option maxRecDepth 100000 in
set_option maxHeartbeats 4000000 in
theorem c99 (ok : Okp) (K : Nat) (w : World) (a0 : S_Arena) (A1 : Option Addr) (cp2 : Nat) (a1 : S_Handle) (hR3 : Rd k_Slot w ok A1 cp2 a0.Slots) (res : S_Arena × Int) (hm : m99 K a0 a1 = some res) :
  Calls Try.prog 99 #[.agg #[.slice A1 a0.Slots.length cp2], .agg #[.int .i64 a1.Slot, .int .i64 a1.Gen]] w (fun e w' => ∃ (A0_ : Option Addr) (c0_ : Nat), e = .returned (tup [.agg #[.slice A0_ res.1.Slots.length c0_], .int .i64 res.2]) ∧ Sep ok w w' [] [RE.rd k_Slot A0_ c0_ res.1.Slots]) := by
 refine calls_W (args := [.agg #[.slice A1 a0.Slots.length cp2], .agg #[.int .i64 a1.Slot, .int .i64 a1.Gen]]) Try.func99 rfl Try.ntmps99 Try.results99 rfl fun r hr => ?_
 obtain ⟨r1, rfl⟩ := regen (r := r) [(0, .agg #[.slice A1 a0.Slots.length cp2]), (1, .agg #[.int .i64 a1.Slot, .int .i64 a1.Gen])] ⟨hr 0 _ rfl, hr 1 _ rfl, trivial⟩
 have H : Sep ok w w [] [RE.rd k_Slot A1 cp2 a0.Slots] := Sep.arg (Sep.start ok w) (re := RE.rd k_Slot A1 cp2 a0.Slots) rfl rfl hR3
 unfold m99 at hm
 refine W_seq ?_
 refine W_region ?_
 refine RL_cons (O_box (by exact wn0 rfl) (by rfl) (by rfl) (by rfl) H (fun w6 b5 (H : Sep ok w w6 [.blk b5 76 [.slice A1 a0.Slots.length cp2]] [RE.rd k_Slot A1 cp2 a0.Slots]) => ?_))
 refine RL_cons (O_box (by exact wn0 rfl) (by rfl) (by rfl) (by rfl) H (fun w8 b7 (H : Sep ok w w8 [.blk b5 76 [.slice A1 a0.Slots.length cp2], HNB b7 a1] [RE.rd k_Slot A1 cp2 a0.Slots]) => ?_))
 refine RL_cons (O_alloc (by exact wn0 rfl) (by rfl) ze76 (by rfl) H (fun w10 b9 (H : Sep ok w w10 [.blk b5 76 [.slice A1 a0.Slots.length cp2], HNB b7 a1, .blk b9 76 [.slice none 0 0]] [RE.rd k_Slot A1 cp2 a0.Slots]) => ?_))
 refine RL_p (x_assign (v := .int .i64 0) (by rfl)) ?_
 refine RL_nil ?_
 refine W_seq ?_
 refine W_seq ?_
 refine W_region ?_
 refine RL_p (x_loadA (j := 0) (vs := [.slice A1 a0.Slots.length cp2]) ag76 (by rfl) (H.cells (i := 0) (by rfl)) (by rfl) (by rfl)) ?_
 obtain ⟨v12, hv11, hm⟩ := bind_some hm
 refine RL_cons (O_call (by exact wn0 rfl) (by rfl) (by rfl) (x_callL (by rfl) (args := [.agg #[.slice A1 a0.Slots.length cp2]]) (by rfl) (cf127 _ _)) (c127 okT K w10 a0 A1 cp2 (H.rd (i := 0) (by rfl)).any v12 hv11) ?_)
 rintro e w13 ⟨rfl, H2⟩
 have H : Sep ok w w13 [.blk b5 76 [.slice A1 a0.Slots.length cp2], HNB b7 a1, .blk b9 76 [.slice none 0 0]] [RE.rd k_Slot A1 cp2 a0.Slots] := H.below H2.base
 clear H2
 refine ⟨_, rfl, ?_⟩
 show RL _ _ _ _ _ _ _
 refine RL_p (x_not (by rfl)) ?_
 refine RL_nil ?_
 refine W_cond (by rfl) (fun hb => ?_) (fun hb => ?_)
 ·have hm := cond_t hb hm
  refine W_seq ?_
  refine W_region ?_
  refine RL_p (x_build (vs := []) (cs := [.slice none 0 0]) (by rfl) (by kernel_rfl)) ?_
  refine RL_cons (O_store (i := 2) (off := 0) (by exact wn0 rfl) (by rfl) (by rfl) H (by rfl) (vs := [.slice none 0 0]) (by rfl) sz76 (by rfl) (by rfl) (by rfl) (fun w14 (H : Sep ok w w14 [.blk b5 76 [.slice A1 a0.Slots.length cp2], HNB b7 a1, .blk b9 76 [.slice none 0 0]] [RE.rd k_Slot A1 cp2 a0.Slots]) => ?_))
  refine RL_p (x_assign (v := .int .i64 8) (by rfl)) ?_
  refine RL_nil ?_
  refine W_ret ?_
  have H : Sep ok w w14 [.blk b5 76 [.slice A1 a0.Slots.length cp2], HNB b7 a1, .blk b9 76 [.slice none 0 0]] [RE.rd k_Slot A1 cp2 a0.Slots, RE.rd k_Slot none 0 ([])] := Sep.also H (re := RE.rd k_Slot none 0 ([])) (Rd.nil (by decide))
  obtain rfl := Option.some.inj hm
  exact ⟨[.agg #[.slice none 0 0], .int .i64 8], (.cellA (by rfl) ag76 (H.cells (i := 2) (by rfl)) (by rfl) (.tmp (by rfl) rfl)), none, 0, rfl, (H.forgetAll).pick [1]⟩
 ·have hm := cond_f hb hm
  refine W_skip ?_
  refine W_seq ?_
  refine W_seq ?_
  refine W_region ?_
  refine RL_p (x_loadA (j := 0) (vs := [.slice A1 a0.Slots.length cp2]) ag76 (by rfl) (H.cells (i := 0) (by rfl)) (by rfl) (by rfl)) ?_
  refine RL_p (x_loadA (j := 0) (vs := [.int .i64 a1.Slot, .int .i64 a1.Gen]) ag81 (by rfl) (H.cells (i := 1) (by rfl)) (by rfl) (by rfl)) ?_
  obtain ⟨v17, hv16, hm⟩ := bind_some hm
  refine RL_cons (O_call (by exact wn0 rfl) (by rfl) (by rfl) (x_callL (by rfl) (args := [.agg #[.slice A1 a0.Slots.length cp2], .agg #[.int .i64 a1.Slot, .int .i64 a1.Gen]]) (by rfl) (cf128 _ _)) (c128 okT K w13 a0 A1 cp2 a1 (H.rd (i := 0) (by rfl)).any v17 hv16) ?_)
  rintro e w18 ⟨rfl, H2⟩
  have H : Sep ok w w18 [.blk b5 76 [.slice A1 a0.Slots.length cp2], HNB b7 a1, .blk b9 76 [.slice none 0 0]] [RE.rd k_Slot A1 cp2 a0.Slots] := H.below H2.base
  clear H2
  refine ⟨_, rfl, ?_⟩
  show RL _ _ _ _ _ _ _
  refine RL_p (x_not (by rfl)) ?_
  refine RL_nil ?_
  refine W_cond (by rfl) (fun hb => ?_) (fun hb => ?_)
  ·have hm := cond_t hb hm
   refine W_seq ?_
   refine W_region ?_
   refine RL_p (x_build (vs := []) (cs := [.slice none 0 0]) (by rfl) (by kernel_rfl)) ?_
   refine RL_cons (O_store (i := 2) (off := 0) (by exact wn0 rfl) (by rfl) (by rfl) H (by rfl) (vs := [.slice none 0 0]) (by rfl) sz76 (by rfl) (by rfl) (by rfl) (fun w19 (H : Sep ok w w19 [.blk b5 76 [.slice A1 a0.Slots.length cp2], HNB b7 a1, .blk b9 76 [.slice none 0 0]] [RE.rd k_Slot A1 cp2 a0.Slots]) => ?_))
   refine RL_p (x_assign (v := .int .i64 50) (by rfl)) ?_
   refine RL_nil ?_
   refine W_ret ?_
   have H : Sep ok w w19 [.blk b5 76 [.slice A1 a0.Slots.length cp2], HNB b7 a1, .blk b9 76 [.slice none 0 0]] [RE.rd k_Slot A1 cp2 a0.Slots, RE.rd k_Slot none 0 ([])] := Sep.also H (re := RE.rd k_Slot none 0 ([])) (Rd.nil (by decide))
   obtain rfl := Option.some.inj hm
   exact ⟨[.agg #[.slice none 0 0], .int .i64 50], (.cellA (by rfl) ag76 (H.cells (i := 2) (by rfl)) (by rfl) (.tmp (by rfl) rfl)), none, 0, rfl, (H.forgetAll).pick [1]⟩
  ·have hm := cond_f hb hm
   refine W_skip ?_
   refine W_seq ?_
   refine W_region ?_
   refine RL_p (x_loadA (j := 0) (vs := [.slice A1 a0.Slots.length cp2]) ag76 (by rfl) (H.cells (i := 0) (by rfl)) (by rfl) (by rfl)) ?_
   obtain ⟨v22, hv21, hm⟩ := bind_some hm
   refine RL_cons (O_call (by exact wn0 rfl) (by rfl) (by rfl) (x_callL (by rfl) (args := [.agg #[.slice A1 a0.Slots.length cp2]]) (by rfl) (cf95 _ _)) (c95 (okS ok w [.blk b5 76 [.slice A1 a0.Slots.length cp2], HNB b7 a1, .blk b9 76 [.slice none 0 0]]) K w18 a0 A1 cp2 (H.rd (i := 0) (by rfl)) v22 hv21) ?_)
   rintro e w23 ⟨A24, cp25, cs26, rfl, H2⟩
   have H : Sep ok w w23 [.blk b5 76 [.slice A1 a0.Slots.length cp2], HNB b7 a1, .blk b9 76 [.slice none 0 0], .row (.slice A24 v22.Slots.length cp25) 96 k_Slot.sz v22.Slots.length cs26] [RE.rd k_Slot A1 cp2 a0.Slots, RE.chunks k_Slot cs26 v22.Slots] := H.call H2
   clear H2
   refine ⟨_, rfl, ?_⟩
   show RL _ _ _ _ _ _ _
   refine RL_cons (O_alloc (by exact wn0 rfl) (by rfl) ze76 (by rfl) H (fun w30 b29 (H : Sep ok w w30 [.blk b5 76 [.slice A1 a0.Slots.length cp2], HNB b7 a1, .blk b9 76 [.slice none 0 0], .row (.slice A24 v22.Slots.length cp25) 96 k_Slot.sz v22.Slots.length cs26, .blk b29 76 [.slice none 0 0]] [RE.rd k_Slot A1 cp2 a0.Slots, RE.chunks k_Slot cs26 v22.Slots]) => ?_))
   refine RL_cons (O_store (i := 4) (off := 0) (by exact wn0 rfl) (by rfl) (by rfl) H (by rfl) (vs := [.slice A24 v22.Slots.length cp25]) (by rfl) sz76 (by rfl) (by rfl) (by rfl) (fun w31 (H : Sep ok w w31 [.blk b5 76 [.slice A1 a0.Slots.length cp2], HNB b7 a1, .blk b9 76 [.slice none 0 0], .row (.slice A24 v22.Slots.length cp25) 96 k_Slot.sz v22.Slots.length cs26, .blk b29 76 [.slice A24 v22.Slots.length cp25]] [RE.rd k_Slot A1 cp2 a0.Slots, RE.chunks k_Slot cs26 v22.Slots]) => ?_))
   refine RL_nil ?_
   refine W_seq ?_
   refine W_region ?_
   refine RL_p (x_fieldAddr fo76_0 (by rfl)) ?_
   refine RL_p (x_load (j := 0) (v := .slice A24 v22.Slots.length cp25) sc74 (by rfl) (H.cells (i := 4) (by rfl)) (by rfl)) ?_
   refine RL_p (x_fieldAddr fo81_0 (by rfl)) ?_
   refine RL_p (x_load (j := 0) (v := .int .i64 a1.Slot) sc3 (by rfl) (H.cells (i := 1) (by rfl)) (by rfl)) ?_
   obtain ⟨el32, h33, h34, he35, hm⟩ := idx_some hm
   obtain ⟨g37, _, hA36, _, _⟩ := H.rowIdx (i := 3) (j := 1) (by rfl) (by rfl) he35
   refine RL_p (x_indexAddr sl74 sz96 (by rfl) (by rfl) hA36 h33 h34) ?_
   refine RL_p (x_fieldAddr fo96_1 (by rfl)) ?_
   obtain ⟨l41, hl42, hm⟩ := lete_some hm
   refine RL_cons (O_storeRow (D := k_Slot) (i := 3) (j := 1) (off := 1) (m := a1.Slot) (a := el32) (b := (⟨el32.Gen, false⟩ : S_Slot)) (vs := [.bool false]) (by exact wn0 rfl) H (by rfl) (by rfl) hA36 (by rfl) (by rfl) he35 (by rfl) sz4 (by rfl) (by rfl) (by intro ce hce; obtain rfl := hce; rfl) hl42 (fun w39 cs40 (H : Sep ok w w39 [.blk b5 76 [.slice A1 a0.Slots.length cp2], HNB b7 a1, .blk b9 76 [.slice none 0 0], .row (.slice A24 l41.length cp25) 96 k_Slot.sz l41.length cs40, .blk b29 76 [.slice A24 v22.Slots.length cp25]] [RE.rd k_Slot A1 cp2 a0.Slots, RE.chunks k_Slot cs40 l41]) => ?_))
   refine RL_nil ?_
   have hn43 : v22.Slots.length = l41.length := by rw [← hl42]; exact (List.length_set ..).symm
   have H : Sep ok w w39 [.blk b5 76 [.slice A1 a0.Slots.length cp2], HNB b7 a1, .blk b9 76 [.slice none 0 0], .row (.slice A24 l41.length cp25) 96 k_Slot.sz l41.length cs40, .blk b29 76 [.slice A24 l41.length cp25]] [RE.rd k_Slot A1 cp2 a0.Slots, RE.chunks k_Slot cs40 l41] := by (try rw [hn43] at H); exact H
   refine W_regen (l := [(4, .pointer (some ⟨b9, 0, none⟩)), (6, .pointer (some ⟨b29, 0, none⟩))]) ⟨rfl, rfl, trivial⟩ fun r44 => ?_
   refine W_seq ?_
   refine W_region ?_
   refine RL_p (x_loadA (j := 0) (vs := [.slice A24 l41.length cp25]) ag76 (by rfl) (H.cells (i := 4) (by rfl)) (by rfl) (by rfl)) ?_
   refine RL_cons (O_store (i := 2) (off := 0) (by exact wn0 rfl) (by rfl) (by rfl) H (by rfl) (vs := [.slice A24 l41.length cp25]) (by rfl) sz76 (by rfl) (by rfl) (by rfl) (fun w45 (H : Sep ok w w45 [.blk b5 76 [.slice A1 a0.Slots.length cp2], HNB b7 a1, .blk b9 76 [.slice A24 l41.length cp25], .row (.slice A24 l41.length cp25) 96 k_Slot.sz l41.length cs40, .blk b29 76 [.slice A24 l41.length cp25]] [RE.rd k_Slot A1 cp2 a0.Slots, RE.chunks k_Slot cs40 l41]) => ?_))
   refine RL_p (x_assign (v := .int .i64 0) (by rfl)) ?_
   refine RL_nil ?_
   refine W_ret ?_
   have H : Sep ok w w45 [.blk b5 76 [.slice A1 a0.Slots.length cp2], HNB b7 a1, .blk b9 76 [.slice A24 l41.length cp25], .hole, .blk b29 76 [.slice A24 l41.length cp25]] [RE.rd k_Slot A1 cp2 a0.Slots, RE.rd k_Slot A24 cp25 l41] := H.frozen (i := 3) (j := 1) (by rfl) (by rfl)
   obtain rfl := Option.some.inj hm
   exact ⟨[.agg #[.slice A24 l41.length cp25], .int .i64 0], (.cellA (by rfl) ag76 (H.cells (i := 2) (by rfl)) (by rfl) (.tmp (by rfl) rfl)), A24, cp25, rfl, (H.forgetAll).pick [1]⟩
end Go.Proofs.YtobkigllalbkiaaV.M

/- A plain Lean function that answers as the Go function does (none: not told), and the proof that a call answers so. Written by program. -/
set_option linter.unusedVariables false
namespace Go.Proofs.YtobkigllalbkiaaV.M
open Go.RowKit Go.Proofs.YtobkigllalbkiaaV
def m100_l1b (K : Nat) (a0 : (List S_Handle)) (a1 : S_Handle) (rec1 : (List S_Handle) → Int → Option ((List S_Handle))) (l_row24_1 : (List S_Handle)) (y6_1 : Int) : Option ((List S_Handle)) :=
 (bif (decide (y6_1 < (a0.length : Int))) then (idx a0 y6_1 fun el10 => (bif (!((el10.Slot == a1.Slot) && (el10.Gen == a1.Gen))) then (idx a0 y6_1 fun el17 => (apd 16 l_row24_1 el17 fun l30 => (ck (y6_1 + 1) fun x33 => (rec1 l30 x33)))) else (ck (y6_1 + 1) fun x34 => (rec1 l_row24_1 x34)))) else some l_row24_1)
def m100_l1 (K : Nat) (a0 : (List S_Handle)) (a1 : S_Handle) : Nat → (List S_Handle) → Int → Option ((List S_Handle))
 | 0 => fun _ _ => none
 | k + 1 => m100_l1b K a0 a1 (m100_l1 K a0 a1 k)
/-- diorama/dioramaref06.without -/
def m100 (K : Nat) (a0 : (List S_Handle)) (a1 : S_Handle) : Option ((List S_Handle)) :=
 m100_l1 K a0 a1 K ([]) 0
set_option maxRecDepth 100000 in
set_option maxHeartbeats 4000000 in
theorem c100 (ok : Okp) (K : Nat) (w : World) (a0 : (List S_Handle)) (A1 : Option Addr) (cp2 : Nat) (a1 : S_Handle) (hR3 : Rd k_Handle w ok A1 cp2 a0) (res : (List S_Handle)) (hm : m100 K a0 a1 = some res) :
  Calls Try.prog 100 #[.slice A1 a0.length cp2, .agg #[.int .i64 a1.Slot, .int .i64 a1.Gen]] w (fun e w' => ∃ (A0_ : Option Addr) (c0_ : Nat), e = .returned (tup [.slice A0_ res.length c0_]) ∧ Sep ok w w' [] [RE.rd k_Handle A0_ c0_ res]) := by
 refine calls_W (args := [.slice A1 a0.length cp2, .agg #[.int .i64 a1.Slot, .int .i64 a1.Gen]]) Try.func100 rfl Try.ntmps100 Try.results100 rfl fun r hr => ?_
 obtain ⟨r1, rfl⟩ := regen (r := r) [(0, .slice A1 a0.length cp2), (1, .agg #[.int .i64 a1.Slot, .int .i64 a1.Gen])] ⟨hr 0 _ rfl, hr 1 _ rfl, trivial⟩
 have H : Sep ok w w [] [RE.rd k_Handle A1 cp2 a0] := Sep.arg (Sep.start ok w) (re := RE.rd k_Handle A1 cp2 a0) rfl rfl hR3
 unfold m100 at hm
 refine W_seq ?_
 refine W_region ?_
 refine RL_cons (O_box (by exact wn0 rfl) (by rfl) (by rfl) (by rfl) H (fun w6 b5 (H : Sep ok w w6 [HNB b5 a1] [RE.rd k_Handle A1 cp2 a0]) => ?_))
 refine RL_p (x_assign (v := .slice none 0 0) (by rfl)) ?_
 refine RL_nil ?_
 refine W_seq ?_
 refine W_region ?_
 refine RL_p (x_assign (v := .slice none 0 0) (by rfl)) ?_
 refine RL_nil ?_
 refine W_seq ?_
 refine W_seq ?_
 refine W_region ?_
 refine RL_p (x_assign (v := .int .i64 0) (by rfl)) ?_
 refine RL_nil ?_
 refine W_block ?_
 refine W_loop (fun k1 r' w' => ∃ (l_row24_1 : (List S_Handle)), ∃ (y6_1 : Int), ∃ (A_row24_1 : Option Addr), ∃ (c_row24_1 : Nat), ∃ (cs_row24_1 : List Value), m100_l1 K a0 a1 k1 l_row24_1 y6_1 = some res ∧ Agr [(0, .slice A1 a0.length cp2), (3, .pointer (some ⟨b5, 0, none⟩)), (5, .slice A_row24_1 l_row24_1.length c_row24_1), (6, .int .i64 y6_1)] r' ∧ Sep ok w w' [HNB b5 a1, .row (.slice A_row24_1 l_row24_1.length c_row24_1) 81 k_Handle.sz l_row24_1.length cs_row24_1] [RE.rd k_Handle A1 cp2 a0, RE.chunks k_Handle cs_row24_1 l_row24_1]) K ?_ ?_
 ·exact ⟨[], 0, none, 0, [], hm, ⟨rfl, rfl, rfl, rfl, trivial⟩, (H).nilRowK 81 k_Handle⟩
 ·rintro k1 r' w' ⟨l_row24_1, y6_1, A_row24_1, c_row24_1, cs_row24_1, hm, hA, H⟩
  obtain ⟨r7, rfl⟩ := regen _ hA; clear hA
  obtain ⟨w8, rfl⟩ : ∃ W : World, W = w' := ⟨_, rfl⟩
  cases k1 with
  | zero => exact (none_some hm).elim
  | succ k1 =>
   have hm : m100_l1b K a0 a1 (m100_l1 K a0 a1 k1) l_row24_1 y6_1 = some res := hm
   unfold m100_l1b at hm
   obtain ⟨rec1, hrec1⟩ : ∃ f, m100_l1 K a0 a1 k1 = f := ⟨_, rfl⟩
   rw [hrec1] at hm
   refine W_seq ?_
   refine W_seq ?_
   refine W_region ?_
   refine RL_p (x_move (v := .int .i64 y6_1) (by rfl)) ?_
   refine RL_p (x_move (v := .slice A1 a0.length cp2) (by rfl)) ?_
   refine RL_p (x_len sl87 (by rfl)) ?_
   refine RL_p (x_lss (by rfl) (by rfl)) ?_
   refine RL_nil ?_
   refine W_cond (by rfl) (fun hb => ?_) (fun hb => ?_)
   ·have hm := cond_t hb hm
    refine W_skip ?_
    refine W_seq ?_
    refine W_block ?_
    refine W_seq ?_
    refine W_draw [.free 0, .free 1, .free 2, .take 3, .take 4, .free 5] (fun wS => Sep ok w wS [HNB b5 a1, .row (.slice A_row24_1 l_row24_1.length c_row24_1) 81 k_Handle.sz l_row24_1.length cs_row24_1] [RE.rd k_Handle A1 cp2 a0, RE.chunks k_Handle cs_row24_1 l_row24_1]) [] [0, 1, 2, 5] mixed0 (by kernel_rfl) (by kernel_rfl) (by kernel_rfl) (by rfl) (by exact H.drew) ?_
    obtain ⟨w9, hW⟩ : ∃ W : World, W = { w8 with drawn := w8.drawn + 1 } := ⟨_, rfl⟩
    rw [← hW]
    have H : Sep ok w w9 [HNB b5 a1, .row (.slice A_row24_1 l_row24_1.length c_row24_1) 81 k_Handle.sz l_row24_1.length cs_row24_1] [RE.rd k_Handle A1 cp2 a0, RE.chunks k_Handle cs_row24_1 l_row24_1] := by rw [hW]; exact H.drew
    clear hW
    refine PR_free (by rfl) (by rfl) (by rfl) (by exact wn0 rfl) (fun wS => (x_move (v := .slice A1 a0.length cp2) (by rfl))) ?_
    refine PR_free (by rfl) (by rfl) (by rfl) (by exact wn0 rfl) (fun wS => (x_move (v := .int .i64 y6_1) (by rfl))) ?_
    obtain ⟨el10, h11, h12, he13, hm⟩ := idx_some hm
    obtain ⟨g15, o16, hA14⟩ := (H.rd (i := 0) (by rfl)).addr he13
    refine PR_free (by rfl) (by rfl) (by rfl) (by exact wn0 rfl) (fun wS => (x_indexAddr sl87 sz81 (by rfl) (by rfl) hA14 h11 h12)) ?_
    refine PR_take (by rfl) (by rfl) (by rfl) (by exact wn0 rfl) (fun wS (H : Sep ok w wS [HNB b5 a1, .row (.slice A_row24_1 l_row24_1.length c_row24_1) 81 k_Handle.sz l_row24_1.length cs_row24_1] [RE.rd k_Handle A1 cp2 a0, RE.chunks k_Handle cs_row24_1 l_row24_1]) => (x_loadA (j := 0) (vs := [.int .i64 el10.Slot, .int .i64 el10.Gen]) ag81 (by rfl) (Rd.flatAt (n := 2) (H.rd (i := 0) (by rfl)) hA14 he13) (by rfl) (by rfl))) ?_
    refine PR_take (by rfl) (by rfl) (by rfl) (by exact wn0 rfl) (fun wS (H : Sep ok w wS [HNB b5 a1, .row (.slice A_row24_1 l_row24_1.length c_row24_1) 81 k_Handle.sz l_row24_1.length cs_row24_1] [RE.rd k_Handle A1 cp2 a0, RE.chunks k_Handle cs_row24_1 l_row24_1]) => (x_loadA (j := 0) (vs := [.int .i64 a1.Slot, .int .i64 a1.Gen]) ag81 (by rfl) (H.cells (i := 0) (by rfl)) (by rfl) (by rfl))) ?_
    refine PR_free (by rfl) (by rfl) (by rfl) (by exact wn0 rfl) (fun wS => (x_neqs ep81 eg81 (by rfl) (by rfl) (b := ((el10.Slot == a1.Slot) && (el10.Gen == a1.Gen))) (by rfl))) ?_
    refine PR_nil ?_
    refine W_cond (by rfl) (fun hb => ?_) (fun hb => ?_)
    ·have hm := cond_t hb hm
     refine W_region ?_
     refine RL_p (x_move (v := .slice A_row24_1 l_row24_1.length c_row24_1) (by rfl)) ?_
     refine RL_p (x_move (v := .slice A1 a0.length cp2) (by rfl)) ?_
     refine RL_p (x_move (v := .int .i64 y6_1) (by rfl)) ?_
     obtain ⟨el17, h18, h19, he20, hm⟩ := idx_some hm
     obtain ⟨g22, o23, hA21⟩ := (H.rd (i := 0) (by rfl)).addr he20
     refine RL_p (x_indexAddr sl87 sz81 (by rfl) (by rfl) hA21 h18 h19) ?_
     refine RL_p (x_loadA (j := 0) (vs := [.int .i64 el17.Slot, .int .i64 el17.Gen]) ag81 (by rfl) (Rd.flatAt (n := 2) (H.rd (i := 0) (by rfl)) hA21 he20) (by rfl) (by rfl)) ?_
     refine RL_cons (O_buildSlice (vs := [(0, .agg #[.int .i64 el17.Slot, .int .i64 el17.Gen])]) (cs := [.int .i64 el17.Slot, .int .i64 el17.Gen]) (by exact wn0 rfl) (by rfl) sl87 sz81 ze81 (by rfl) (by rfl) (by rfl) (by kernel_rfl) H (fun w25 b24 (H : Sep ok w w25 [HNB b5 a1, .row (.slice A_row24_1 l_row24_1.length c_row24_1) 81 k_Handle.sz l_row24_1.length cs_row24_1, HNB b24 el17] [RE.rd k_Handle A1 cp2 a0, RE.chunks k_Handle cs_row24_1 l_row24_1]) => ?_))
     obtain ⟨l30, hl31, hb32, hm⟩ := apd_some hm
     refine RL_cons (O_append (D := k_Handle) (i := 1) (j := 1) (o := 0) (y := el17) (by exact wn0 rfl) (by rfl) (by rfl) (by rfl) H (by rfl) (by rfl) (H.cells (i := 2) (by rfl)) rfl hl31 sl87 sz81 by81 ze81 (by rfl) (by rfl) hb32 (by rfl) (fun w26 A27 cp28 cs29 (H : Sep ok w w26 [HNB b5 a1, .row (.slice A27 l30.length cp28) 81 k_Handle.sz l30.length cs29, HNB b24 el17] [RE.rd k_Handle A1 cp2 a0, RE.chunks k_Handle cs29 l30]) => ?_))
     refine RL_p (x_assign (v := .slice A27 l30.length cp28) (by rfl)) ?_
     refine RL_nil ?_
     refine W_region ?_
     refine RL_p (x_move (v := .int .i64 y6_1) (by rfl)) ?_
     obtain ⟨x33, ex33, qx33, ux33, hm⟩ := ck_some hm
     refine RL_p (x_add (by rfl) (by rfl) ux33) ?_
     refine RL_p (x_assign (v := .int .i64 x33) (by rfl)) ?_
     refine RL_nil ?_
     subst hrec1
     exact ⟨k1, Nat.lt_succ_self k1, l30, x33, A27, cp28, cs29, hm, ⟨rfl, rfl, rfl, rfl, trivial⟩, (H).takeL 2⟩
    ·have hm := cond_f hb hm
     refine W_skip ?_
     refine W_region ?_
     refine RL_p (x_move (v := .int .i64 y6_1) (by rfl)) ?_
     obtain ⟨x34, ex34, qx34, ux34, hm⟩ := ck_some hm
     refine RL_p (x_add (by rfl) (by rfl) ux34) ?_
     refine RL_p (x_assign (v := .int .i64 x34) (by rfl)) ?_
     refine RL_nil ?_
     subst hrec1
     exact ⟨k1, Nat.lt_succ_self k1, l_row24_1, x34, A_row24_1, c_row24_1, cs_row24_1, hm, ⟨rfl, rfl, rfl, rfl, trivial⟩, H⟩
   ·have hm := cond_f hb hm
    refine W_exit ?_
    refine W_seq ?_
    refine W_region ?_
    refine RL_p (x_move (v := .slice A_row24_1 l_row24_1.length c_row24_1) (by rfl)) ?_
    refine RL_p (x_assign (v := .slice A_row24_1 l_row24_1.length c_row24_1) (by rfl)) ?_
    refine RL_nil ?_
    refine W_ret ?_
    have H : Sep ok w w8 [HNB b5 a1, .hole] [RE.rd k_Handle A1 cp2 a0, RE.rd k_Handle A_row24_1 c_row24_1 l_row24_1] := H.frozen (i := 1) (j := 1) (by rfl) (by rfl)
    obtain rfl := Option.some.inj hm
    exact ⟨[.slice A_row24_1 l_row24_1.length c_row24_1], (.tmp (by rfl) rfl), A_row24_1, c_row24_1, rfl, (H.forgetAll).pick [1]⟩
end Go.Proofs.YtobkigllalbkiaaV.M
