/- Part 4 of the texts that the proof of PyramidTells stands on. -/
import Derived.Test.YtobkigllalbkiaaPyramidTellsZC
/- A plain Lean function that answers as the Go function does (none: not told), and the proof that a call answers so. Written by program. -/
set_option linter.unusedVariables false
namespace Go.Proofs.YtobkigllalbkiaaV.M
open Go.RowKit Go.Proofs.YtobkigllalbkiaaV
def m111_l2b (K : Nat) (a0 : S_Level) (x10 : Int) (y4_1 : Int) (rec1 : (List Int) → Int → Option (S_Level)) (rec2 : (List Int) → Int → Option (S_Level)) (l_row72_2 : (List Int)) (y5_2 : Int) : Option (S_Level) :=
 (bif (decide (y5_2 < x10)) then (ck (2 * y4_1) fun x20 => (ck (x20 * a0.W) fun x21 => (ck (2 * y5_2) fun x22 => (ck (x21 + x22) fun x23 => (idx a0.Low x23 fun el24 => (ck (2 * y5_2) fun x31 => (ck (x31 + (Int.tmod 1 2)) fun x32 => (ck (2 * y4_1) fun x33 => (ck (Int.tdiv 1 2) fun x34 => (ck (x33 + x34) fun x35 => ((bif (decide (x32 < a0.W)) then some (decide (x35 < a0.H)) else some false).bind fun b36 => (bif b36 then (ck (x35 * a0.W) fun x39 => (ck (x39 + x32) fun x40 => (idx a0.Low x40 fun el41 => (ck (2 * y5_2) fun x48 => (ck (x48 + (Int.tmod 2 2)) fun x49 => (ck (2 * y4_1) fun x50 => (ck (Int.tdiv 2 2) fun x51 => (ck (x50 + x51) fun x52 => ((bif (decide (x49 < a0.W)) then some (decide (x52 < a0.H)) else some false).bind fun b53 => (bif b53 then (ck (x52 * a0.W) fun x56 => (ck (x56 + x49) fun x57 => (idx a0.Low x57 fun el58 => (ck (2 * y5_2) fun x65 => (ck (x65 + (Int.tmod 3 2)) fun x66 => (ck (2 * y4_1) fun x67 => (ck (Int.tdiv 3 2) fun x68 => (ck (x67 + x68) fun x69 => ((bif (decide (x66 < a0.W)) then some (decide (x69 < a0.H)) else some false).bind fun b70 => (bif b70 then (ck (x69 * a0.W) fun x73 => (ck (x73 + x66) fun x74 => (idx a0.Low x74 fun el75 => (apd 8 l_row72_2 (mn (mn (mn el24 el41) el58) el75) fun l88 => (ck (y5_2 + 1) fun x92 => (rec2 l88 x92)))))) else (apd 8 l_row72_2 (mn (mn el24 el41) el58) fun l99 => (ck (y5_2 + 1) fun x103 => (rec2 l99 x103))))))))))))) else (ck (2 * y5_2) fun x104 => (ck (x104 + (Int.tmod 3 2)) fun x105 => (ck (2 * y4_1) fun x106 => (ck (Int.tdiv 3 2) fun x107 => (ck (x106 + x107) fun x108 => ((bif (decide (x105 < a0.W)) then some (decide (x108 < a0.H)) else some false).bind fun b109 => (bif b109 then (ck (x108 * a0.W) fun x112 => (ck (x112 + x105) fun x113 => (idx a0.Low x113 fun el114 => (apd 8 l_row72_2 (mn (mn el24 el41) el114) fun l127 => (ck (y5_2 + 1) fun x131 => (rec2 l127 x131)))))) else (apd 8 l_row72_2 (mn el24 el41) fun l138 => (ck (y5_2 + 1) fun x142 => (rec2 l138 x142)))))))))))))))))))) else (ck (2 * y5_2) fun x143 => (ck (x143 + (Int.tmod 2 2)) fun x144 => (ck (2 * y4_1) fun x145 => (ck (Int.tdiv 2 2) fun x146 => (ck (x145 + x146) fun x147 => ((bif (decide (x144 < a0.W)) then some (decide (x147 < a0.H)) else some false).bind fun b148 => (bif b148 then (ck (x147 * a0.W) fun x151 => (ck (x151 + x144) fun x152 => (idx a0.Low x152 fun el153 => (ck (2 * y5_2) fun x160 => (ck (x160 + (Int.tmod 3 2)) fun x161 => (ck (2 * y4_1) fun x162 => (ck (Int.tdiv 3 2) fun x163 => (ck (x162 + x163) fun x164 => ((bif (decide (x161 < a0.W)) then some (decide (x164 < a0.H)) else some false).bind fun b165 => (bif b165 then (ck (x164 * a0.W) fun x168 => (ck (x168 + x161) fun x169 => (idx a0.Low x169 fun el170 => (apd 8 l_row72_2 (mn (mn el24 el153) el170) fun l183 => (ck (y5_2 + 1) fun x187 => (rec2 l183 x187)))))) else (apd 8 l_row72_2 (mn el24 el153) fun l194 => (ck (y5_2 + 1) fun x198 => (rec2 l194 x198))))))))))))) else (ck (2 * y5_2) fun x199 => (ck (x199 + (Int.tmod 3 2)) fun x200 => (ck (2 * y4_1) fun x201 => (ck (Int.tdiv 3 2) fun x202 => (ck (x201 + x202) fun x203 => ((bif (decide (x200 < a0.W)) then some (decide (x203 < a0.H)) else some false).bind fun b204 => (bif b204 then (ck (x203 * a0.W) fun x207 => (ck (x207 + x200) fun x208 => (idx a0.Low x208 fun el209 => (apd 8 l_row72_2 (mn el24 el209) fun l222 => (ck (y5_2 + 1) fun x226 => (rec2 l222 x226)))))) else (apd 8 l_row72_2 el24 fun l233 => (ck (y5_2 + 1) fun x237 => (rec2 l233 x237))))))))))))))))))))))))))))) else (ck (y4_1 + 1) fun x238 => (rec1 l_row72_2 x238)))
def m111_l2 (K : Nat) (a0 : S_Level) (x10 : Int) (y4_1 : Int) (rec1 : (List Int) → Int → Option (S_Level)) : Nat → (List Int) → Int → Option (S_Level)
 | 0 => fun _ _ => none
 | k + 1 => m111_l2b K a0 x10 y4_1 rec1 (m111_l2 K a0 x10 y4_1 rec1 k)
def m111_l1b (K : Nat) (a0 : S_Level) (x10 : Int) (x12 : Int) (rec1 : (List Int) → Int → Option (S_Level)) (l_row72_1 : (List Int)) (y4_1 : Int) : Option (S_Level) :=
 (bif (decide (y4_1 < x12)) then m111_l2 K a0 x10 y4_1 rec1 K l_row72_1 0 else some (⟨x10, x12, l_row72_1⟩ : S_Level))
def m111_l1 (K : Nat) (a0 : S_Level) (x10 : Int) (x12 : Int) : Nat → (List Int) → Int → Option (S_Level)
 | 0 => fun _ _ => none
 | k + 1 => m111_l1b K a0 x10 x12 (m111_l1 K a0 x10 x12 k)
/-- diorama/dioramaref27.next -/
def m111 (K : Nat) (a0 : S_Level) : Option (S_Level) :=
 (ck (a0.W + 1) fun x9 => (ck (Int.tdiv x9 2) fun x10 => (ck (a0.H + 1) fun x11 => (ck (Int.tdiv x11 2) fun x12 => m111_l1 K a0 x10 x12 K ([]) 0))))
set_option maxRecDepth 100000 in
set_option maxHeartbeats 4000000 in
theorem c111 (ok : Okp) (K : Nat) (w : World) (a0 : S_Level) (A1 : Option Addr) (cp2 : Nat) (hR3 : Rd kInt w ok A1 cp2 a0.Low) (res : S_Level) (hm : m111 K a0 = some res) :
  Calls Try.prog 111 #[.agg #[.int .i64 a0.W, .int .i64 a0.H, .slice A1 a0.Low.length cp2]] w (fun e w' => ∃ (A0_ : Option Addr) (c0_ : Nat), e = .returned (tup [.agg #[.int .i64 res.W, .int .i64 res.H, .slice A0_ res.Low.length c0_]]) ∧ Sep ok w w' [] [RE.rd kInt A0_ c0_ res.Low]) := by
 refine calls_W (args := [.agg #[.int .i64 a0.W, .int .i64 a0.H, .slice A1 a0.Low.length cp2]]) Try.func111 rfl Try.ntmps111 Try.results111 rfl fun r hr => ?_
 obtain ⟨r1, rfl⟩ := regen (r := r) [(0, .agg #[.int .i64 a0.W, .int .i64 a0.H, .slice A1 a0.Low.length cp2])] ⟨hr 0 _ rfl, trivial⟩
 have H : Sep ok w w [] [RE.rd kInt A1 cp2 a0.Low] := Sep.arg (Sep.start ok w) (re := RE.rd kInt A1 cp2 a0.Low) rfl rfl hR3
 unfold m111 at hm
 refine W_seq ?_
 refine W_region ?_
 refine RL_cons (O_box (by exact wn0 rfl) (by rfl) (by rfl) (by rfl) H (fun w6 b5 (H : Sep ok w w6 [.blk b5 54 [.int .i64 a0.W, .int .i64 a0.H, .slice A1 a0.Low.length cp2]] [RE.rd kInt A1 cp2 a0.Low]) => ?_))
 refine RL_cons (O_alloc (by exact wn0 rfl) (by rfl) ze54 (by rfl) H (fun w8 b7 (H : Sep ok w w8 [.blk b5 54 [.int .i64 a0.W, .int .i64 a0.H, .slice A1 a0.Low.length cp2], .blk b7 54 [.int .i64 0, .int .i64 0, .slice none 0 0]] [RE.rd kInt A1 cp2 a0.Low]) => ?_))
 refine RL_nil ?_
 refine W_seq ?_
 refine W_region ?_
 refine RL_pure (by exact wn0 rfl) (by rfl) (by rfl) (x_fieldAddr fo54_0 (by rfl)) ?_
 refine RL_pure (by exact wn0 rfl) (by rfl) (by rfl) (x_load (j := 0) (v := .int .i64 a0.W) sc3 (by rfl) (H.cells (i := 0) (by rfl)) (by rfl)) ?_
 obtain ⟨x9, ex9, qx9, ux9, hm⟩ := ck_some hm
 refine RL_pure (by exact wn0 rfl) (by rfl) (by rfl) (x_add (by rfl) (by rfl) ux9) ?_
 obtain ⟨x10, ex10, qx10, ux10, hm⟩ := ck_some hm
 refine RL_pure (by exact wn0 rfl) (by rfl) (by rfl) (x_quo (by rfl) (by rfl) (by decide) ux10) ?_
 refine RL_pure (by exact wn0 rfl) (by rfl) (by rfl) (x_fieldAddr fo54_1 (by rfl)) ?_
 refine RL_pure (by exact wn0 rfl) (by rfl) (by rfl) (x_load (j := 1) (v := .int .i64 a0.H) sc3 (by rfl) (H.cells (i := 0) (by rfl)) (by rfl)) ?_
 obtain ⟨x11, ex11, qx11, ux11, hm⟩ := ck_some hm
 refine RL_pure (by exact wn0 rfl) (by rfl) (by rfl) (x_add (by rfl) (by rfl) ux11) ?_
 obtain ⟨x12, ex12, qx12, ux12, hm⟩ := ck_some hm
 refine RL_pure (by exact wn0 rfl) (by rfl) (by rfl) (x_quo (by rfl) (by rfl) (by decide) ux12) ?_
 refine RL_pure (by exact wn0 rfl) (by rfl) (by rfl) (x_build (vs := [(0, .int .i64 x10), (1, .int .i64 x12)]) (cs := [.int .i64 x10, .int .i64 x12, .slice none 0 0]) (by rfl) (by kernel_rfl)) ?_
 refine RL_cons (O_alloc (by exact wn0 rfl) (by rfl) ze54 (by rfl) H (fun w14 b13 (H : Sep ok w w14 [.blk b5 54 [.int .i64 a0.W, .int .i64 a0.H, .slice A1 a0.Low.length cp2], .blk b7 54 [.int .i64 0, .int .i64 0, .slice none 0 0], .blk b13 54 [.int .i64 0, .int .i64 0, .slice none 0 0]] [RE.rd kInt A1 cp2 a0.Low]) => ?_))
 refine RL_cons (O_store (i := 2) (off := 0) (by exact wn0 rfl) (by rfl) (by rfl) H (by rfl) (vs := [.int .i64 x10, .int .i64 x12, .slice none 0 0]) (by rfl) sz54 (by rfl) (by rfl) (by rfl) (fun w15 (H : Sep ok w w15 [.blk b5 54 [.int .i64 a0.W, .int .i64 a0.H, .slice A1 a0.Low.length cp2], .blk b7 54 [.int .i64 0, .int .i64 0, .slice none 0 0], .blk b13 54 [.int .i64 x10, .int .i64 x12, .slice none 0 0]] [RE.rd kInt A1 cp2 a0.Low]) => ?_))
 refine RL_nil ?_
 refine W_seq ?_
 refine W_seq ?_
 refine W_region ?_
 refine RL_pure (by exact wn0 rfl) (by rfl) (by rfl) (x_assign (v := .int .i64 0) (by rfl)) ?_
 refine RL_nil ?_
 refine W_block ?_
 refine W_loop (fun k1 r' w' => ∃ (l_row72_1 : (List Int)), ∃ (y4_1 : Int), ∃ (A_row72_1 : Option Addr), ∃ (c_row72_1 : Nat), ∃ (cs_row72_1 : List Value), m111_l1 K a0 x10 x12 k1 l_row72_1 y4_1 = some res ∧ Agr [(1, .pointer (some ⟨b5, 0, none⟩)), (2, .pointer (some ⟨b7, 0, none⟩)), (3, .pointer (some ⟨b13, 0, none⟩)), (4, .int .i64 y4_1)] r' ∧ Sep ok w w' [.blk b5 54 [.int .i64 a0.W, .int .i64 a0.H, .slice A1 a0.Low.length cp2], .blk b7 54 [.int .i64 0, .int .i64 0, .slice none 0 0], .blk b13 54 [.int .i64 x10, .int .i64 x12, .slice A_row72_1 l_row72_1.length c_row72_1], .row (.slice A_row72_1 l_row72_1.length c_row72_1) 3 kInt.sz l_row72_1.length cs_row72_1] [RE.rd kInt A1 cp2 a0.Low, RE.chunks kInt cs_row72_1 l_row72_1]) K ?_ ?_
 ·exact ⟨[], 0, none, 0, [], hm, ⟨rfl, rfl, rfl, rfl, trivial⟩, (H).nilRowK 3 kInt⟩
 ·rintro k1 r' w' ⟨l_row72_1, y4_1, A_row72_1, c_row72_1, cs_row72_1, hm, hA, H⟩
  obtain ⟨r16, rfl⟩ := regen _ hA; clear hA
  obtain ⟨w17, rfl⟩ : ∃ W : World, W = w' := ⟨_, rfl⟩
  cases k1 with
  | zero => exact (none_some hm).elim
  | succ k1 =>
   have hm : m111_l1b K a0 x10 x12 (m111_l1 K a0 x10 x12 k1) l_row72_1 y4_1 = some res := hm
   unfold m111_l1b at hm
   obtain ⟨rec1, hrec1⟩ : ∃ f, m111_l1 K a0 x10 x12 k1 = f := ⟨_, rfl⟩
   rw [hrec1] at hm
   refine W_seq ?_
   refine W_seq ?_
   refine W_region ?_
   refine RL_pure (by exact wn0 rfl) (by rfl) (by rfl) (x_move (v := .int .i64 y4_1) (by rfl)) ?_
   refine RL_pure (by exact wn0 rfl) (by rfl) (by rfl) (x_fieldAddr fo54_1 (by rfl)) ?_
   refine RL_pure (by exact wn0 rfl) (by rfl) (by rfl) (x_load (j := 1) (v := .int .i64 x12) sc3 (by rfl) (H.cells (i := 2) (by rfl)) (by rfl)) ?_
   refine RL_pure (by exact wn0 rfl) (by rfl) (by rfl) (x_lss (by rfl) (by rfl)) ?_
   refine RL_nil ?_
   refine W_cond (by rfl) (fun hb => ?_) (fun hb => ?_)
   ·have hm := cond_t hb hm
    refine W_skip ?_
    refine W_seq ?_
    refine W_block ?_
    refine W_seq ?_
    refine W_region ?_
    refine RL_pure (by exact wn0 rfl) (by rfl) (by rfl) (x_assign (v := .int .i64 0) (by rfl)) ?_
    refine RL_nil ?_
    refine W_block ?_
    refine W_loop (fun k2 r' w' => ∃ (l_row72_2 : (List Int)), ∃ (y5_2 : Int), ∃ (A_row72_2 : Option Addr), ∃ (c_row72_2 : Nat), ∃ (cs_row72_2 : List Value), m111_l2 K a0 x10 y4_1 rec1 k2 l_row72_2 y5_2 = some res ∧ Agr [(1, .pointer (some ⟨b5, 0, none⟩)), (2, .pointer (some ⟨b7, 0, none⟩)), (3, .pointer (some ⟨b13, 0, none⟩)), (4, .int .i64 y4_1), (5, .int .i64 y5_2)] r' ∧ Sep ok w w' [.blk b5 54 [.int .i64 a0.W, .int .i64 a0.H, .slice A1 a0.Low.length cp2], .blk b7 54 [.int .i64 0, .int .i64 0, .slice none 0 0], .blk b13 54 [.int .i64 x10, .int .i64 x12, .slice A_row72_2 l_row72_2.length c_row72_2], .row (.slice A_row72_2 l_row72_2.length c_row72_2) 3 kInt.sz l_row72_2.length cs_row72_2] [RE.rd kInt A1 cp2 a0.Low, RE.chunks kInt cs_row72_2 l_row72_2]) K ?_ ?_
    ·exact ⟨l_row72_1, 0, A_row72_1, c_row72_1, cs_row72_1, hm, ⟨rfl, rfl, rfl, rfl, rfl, trivial⟩, H⟩
    ·rintro k2 r' w' ⟨l_row72_2, y5_2, A_row72_2, c_row72_2, cs_row72_2, hm, hA, H⟩
     obtain ⟨r18, rfl⟩ := regen _ hA; clear hA
     obtain ⟨w19, rfl⟩ : ∃ W : World, W = w' := ⟨_, rfl⟩
     cases k2 with
     | zero => exact (none_some hm).elim
     | succ k2 =>
      have hm : m111_l2b K a0 x10 y4_1 rec1 (m111_l2 K a0 x10 y4_1 rec1 k2) l_row72_2 y5_2 = some res := hm
      unfold m111_l2b at hm
      obtain ⟨rec2, hrec2⟩ : ∃ f, m111_l2 K a0 x10 y4_1 rec1 k2 = f := ⟨_, rfl⟩
      rw [hrec2] at hm
      refine W_seq ?_
      refine W_seq ?_
      refine W_region ?_
      refine RL_pure (by exact wn0 rfl) (by rfl) (by rfl) (x_move (v := .int .i64 y5_2) (by rfl)) ?_
      refine RL_pure (by exact wn0 rfl) (by rfl) (by rfl) (x_fieldAddr fo54_0 (by rfl)) ?_
      refine RL_pure (by exact wn0 rfl) (by rfl) (by rfl) (x_load (j := 0) (v := .int .i64 x10) sc3 (by rfl) (H.cells (i := 2) (by rfl)) (by rfl)) ?_
      refine RL_pure (by exact wn0 rfl) (by rfl) (by rfl) (x_lss (by rfl) (by rfl)) ?_
      refine RL_nil ?_
      refine W_cond (by rfl) (fun hb => ?_) (fun hb => ?_)
      ·have hm := cond_t hb hm
       refine W_skip ?_
       refine W_seq ?_
       refine W_block ?_
       refine W_seq ?_
       refine W_region ?_
       refine RL_pure (by exact wn0 rfl) (by rfl) (by rfl) (x_fieldAddr fo54_2 (by rfl)) ?_
       refine RL_pure (by exact wn0 rfl) (by rfl) (by rfl) (x_load (j := 2) (v := .slice A1 a0.Low.length cp2) sc23 (by rfl) (H.cells (i := 0) (by rfl)) (by rfl)) ?_
       refine RL_pure (by exact wn0 rfl) (by rfl) (by rfl) (x_move (v := .int .i64 y4_1) (by rfl)) ?_
       obtain ⟨x20, ex20, qx20, ux20, hm⟩ := ck_some hm
       refine RL_pure (by exact wn0 rfl) (by rfl) (by rfl) (x_mul (by rfl) (by rfl) ux20) ?_
       refine RL_pure (by exact wn0 rfl) (by rfl) (by rfl) (x_fieldAddr fo54_0 (by rfl)) ?_
       refine RL_pure (by exact wn0 rfl) (by rfl) (by rfl) (x_load (j := 0) (v := .int .i64 a0.W) sc3 (by rfl) (H.cells (i := 0) (by rfl)) (by rfl)) ?_
       obtain ⟨x21, ex21, qx21, ux21, hm⟩ := ck_some hm
       refine RL_pure (by exact wn0 rfl) (by rfl) (by rfl) (x_mul (by rfl) (by rfl) ux21) ?_
       refine RL_pure (by exact wn0 rfl) (by rfl) (by rfl) (x_move (v := .int .i64 y5_2) (by rfl)) ?_
       obtain ⟨x22, ex22, qx22, ux22, hm⟩ := ck_some hm
       refine RL_pure (by exact wn0 rfl) (by rfl) (by rfl) (x_mul (by rfl) (by rfl) ux22) ?_
       obtain ⟨x23, ex23, qx23, ux23, hm⟩ := ck_some hm
       refine RL_pure (by exact wn0 rfl) (by rfl) (by rfl) (x_add (by rfl) (by rfl) ux23) ?_
       obtain ⟨el24, h25, h26, he27, hm⟩ := idx_some hm
       obtain ⟨g29, o30, hA28⟩ := (H.rd (i := 0) (by rfl)).addr he27
       refine RL_pure (by exact wn0 rfl) (by rfl) (by rfl) (x_indexAddr sl23 sz3 (by rfl) (by rfl) hA28 h25 h26) ?_
       refine RL_pure (by exact wn0 rfl) (by rfl) (by rfl) (x_load (j := 0) (v := .int .i64 el24) sc3 (by rfl) (Rd.flatAt (n := 1) (H.rd (i := 0) (by rfl)) hA28 he27) (by rfl)) ?_
       refine RL_pure (by exact wn0 rfl) (by rfl) (by rfl) (x_assign (v := .int .i64 el24) (by rfl)) ?_
       refine RL_nil ?_
       refine W_seq ?_
       refine W_seq ?_
       refine W_region ?_
       refine RL_pure (by exact wn0 rfl) (by rfl) (by rfl) (x_assign (v := .int .i64 1) (by rfl)) ?_
       refine RL_nil ?_
       refine W_block ?_
       refine W_unroll 40 ?_
       refine WU_succ ?_
       refine W_seq ?_
       refine W_seq ?_
       refine W_region ?_
       refine RL_pure (by exact wn0 rfl) (by rfl) (by rfl) (x_move (v := .int .i64 1) (by rfl)) ?_
       refine RL_pure (by exact wn0 rfl) (by rfl) (by rfl) (x_lss (by rfl) (by rfl)) ?_
       refine RL_nil ?_
       refine W_cond (t := true) (by first | rfl | decide) (fun _ => ?_) (fun hb => by cases hb)
       refine W_skip ?_
       refine W_seq ?_
       refine W_block ?_
       refine W_seq ?_
       refine W_region ?_
       refine RL_pure (by exact wn0 rfl) (by rfl) (by rfl) (x_move (v := .int .i64 y5_2) (by rfl)) ?_
       obtain ⟨x31, ex31, qx31, ux31, hm⟩ := ck_some hm
       refine RL_pure (by exact wn0 rfl) (by rfl) (by rfl) (x_mul (by rfl) (by rfl) ux31) ?_
       refine RL_pure (by exact wn0 rfl) (by rfl) (by rfl) (x_move (v := .int .i64 1) (by rfl)) ?_
       refine RL_pure (by exact wn0 rfl) (by rfl) (by rfl) (x_rem (by rfl) (by rfl) (by decide)) ?_
       obtain ⟨x32, ex32, qx32, ux32, hm⟩ := ck_some hm
       refine RL_pure (by exact wn0 rfl) (by rfl) (by rfl) (x_add (by rfl) (by rfl) ux32) ?_
       refine RL_pure (by exact wn0 rfl) (by rfl) (by rfl) (x_move (v := .int .i64 y4_1) (by rfl)) ?_
       obtain ⟨x33, ex33, qx33, ux33, hm⟩ := ck_some hm
       refine RL_pure (by exact wn0 rfl) (by rfl) (by rfl) (x_mul (by rfl) (by rfl) ux33) ?_
       refine RL_pure (by exact wn0 rfl) (by rfl) (by rfl) (x_move (v := .int .i64 1) (by rfl)) ?_
       obtain ⟨x34, ex34, qx34, ux34, hm⟩ := ck_some hm
       refine RL_pure (by exact wn0 rfl) (by rfl) (by rfl) (x_quo (by rfl) (by rfl) (by decide) ux34) ?_
       obtain ⟨x35, ex35, qx35, ux35, hm⟩ := ck_some hm
       refine RL_pure (by exact wn0 rfl) (by rfl) (by rfl) (x_add (by rfl) (by rfl) ux35) ?_
       refine RL_pure (by exact wn0 rfl) (by rfl) (by rfl) (x_assign (v := .int .i64 x32) (by rfl)) ?_
       refine RL_pure (by exact wn0 rfl) (by rfl) (by rfl) (x_assign (v := .int .i64 x35) (by rfl)) ?_
       refine RL_nil ?_
       refine W_seq ?_
       refine W_region ?_
       refine RL_pure (by exact wn0 rfl) (by rfl) (by rfl) (x_move (v := .int .i64 x32) (by rfl)) ?_
       refine RL_pure (by exact wn0 rfl) (by rfl) (by rfl) (x_fieldAddr fo54_0 (by rfl)) ?_
       refine RL_pure (by exact wn0 rfl) (by rfl) (by rfl) (x_load (j := 0) (v := .int .i64 a0.W) sc3 (by rfl) (H.cells (i := 0) (by rfl)) (by rfl)) ?_
       refine RL_pure (by exact wn0 rfl) (by rfl) (by rfl) (x_lss (by rfl) (by rfl)) ?_
       refine RL_pure (by exact wn0 rfl) (by rfl) (by rfl) (x_move (v := .bool (decide (x32 < a0.W))) (by rfl)) ?_
       obtain ⟨b36, hmS, hm⟩ := bind_some hm
       refine RL_cut 5 (fun r' w' => Agr [(66, .bool b36), (1, .pointer (some ⟨b5, 0, none⟩)), (2, .pointer (some ⟨b7, 0, none⟩)), (3, .pointer (some ⟨b13, 0, none⟩)), (4, .int .i64 y4_1), (5, .int .i64 y5_2), (6, .int .i64 el24), (7, .int .i64 1), (8, .int .i64 x32), (9, .int .i64 x35)] r' ∧ Sep ok w w' [.blk b5 54 [.int .i64 a0.W, .int .i64 a0.H, .slice A1 a0.Low.length cp2], .blk b7 54 [.int .i64 0, .int .i64 0, .slice none 0 0], .blk b13 54 [.int .i64 x10, .int .i64 x12, .slice A_row72_2 l_row72_2.length c_row72_2], .row (.slice A_row72_2 l_row72_2.length c_row72_2) 3 kInt.sz l_row72_2.length cs_row72_2] [RE.rd kInt A1 cp2 a0.Low, RE.chunks kInt cs_row72_2 l_row72_2]) ?_ ?_
       ·cases hbS : (decide (x32 < a0.W))
        ·have hm := cond_f hbS hmS
         refine RL_cons (OpR_off (by exact wn2 rfl rfl rfl rfl) (by rfl) (by rfl) ?_)
         refine RL_cons (OpR_off (by exact wn2 rfl rfl rfl rfl) (by rfl) (by rfl) ?_)
         refine RL_cons (OpR_off (by exact wn2 rfl rfl rfl rfl) (by rfl) (by rfl) ?_)
         refine RL_cons (OpR_off (by exact wn2 rfl rfl rfl rfl) (by rfl) (by rfl) ?_)
         refine RL_pure (by exact wn0 rfl) (by rfl) (by rfl) (x_pick_f (v := .bool false) (by rfl) (by rfl)) ?_
         refine RL_nil ?_
         exact ⟨⟨congrArg Value.bool (Option.some.inj hm), rfl, rfl, rfl, rfl, rfl, rfl, rfl, rfl, rfl, trivial⟩, H⟩
        ·have hm := cond_t hbS hmS
         refine RL_pure (by exact wn1 rfl rfl rfl rfl) (by rfl) (by rfl) (x_move (v := .int .i64 x35) (by rfl)) ?_
         refine RL_pure (by exact wn1 rfl rfl rfl rfl) (by rfl) (by rfl) (x_fieldAddr fo54_1 (by rfl)) ?_
         refine RL_pure (by exact wn1 rfl rfl rfl rfl) (by rfl) (by rfl) (x_load (j := 1) (v := .int .i64 a0.H) sc3 (by rfl) (H.cells (i := 0) (by rfl)) (by rfl)) ?_
         refine RL_pure (by exact wn1 rfl rfl rfl rfl) (by rfl) (by rfl) (x_lss (by rfl) (by rfl)) ?_
         refine RL_pure (by exact wn0 rfl) (by rfl) (by rfl) (x_pick_t (v := .bool (decide (x35 < a0.H))) (by rfl) (by rfl)) ?_
         refine RL_nil ?_
         exact ⟨⟨congrArg Value.bool (Option.some.inj hm), rfl, rfl, rfl, rfl, rfl, rfl, rfl, rfl, rfl, trivial⟩, H⟩
       ·rintro r' w' ⟨hA, H⟩
        obtain ⟨r37, rfl⟩ := regen _ hA; clear hA
        obtain ⟨w38, rfl⟩ : ∃ W : World, W = w' := ⟨_, rfl⟩
        show RL _ _ _ _ _ _ _
        refine RL_nil ?_
        refine W_cond (by rfl) (fun hb => ?_) (fun hb => ?_)
        ·have hm := cond_t hb hm
         refine W_region ?_
         refine RL_pure (by exact wn0 rfl) (by rfl) (by rfl) (x_move (v := .int .i64 el24) (by rfl)) ?_
         refine RL_pure (by exact wn0 rfl) (by rfl) (by rfl) (x_fieldAddr fo54_2 (by rfl)) ?_
         refine RL_pure (by exact wn0 rfl) (by rfl) (by rfl) (x_load (j := 2) (v := .slice A1 a0.Low.length cp2) sc23 (by rfl) (H.cells (i := 0) (by rfl)) (by rfl)) ?_
         refine RL_pure (by exact wn0 rfl) (by rfl) (by rfl) (x_move (v := .int .i64 x35) (by rfl)) ?_
         refine RL_pure (by exact wn0 rfl) (by rfl) (by rfl) (x_fieldAddr fo54_0 (by rfl)) ?_
         refine RL_pure (by exact wn0 rfl) (by rfl) (by rfl) (x_load (j := 0) (v := .int .i64 a0.W) sc3 (by rfl) (H.cells (i := 0) (by rfl)) (by rfl)) ?_
         obtain ⟨x39, ex39, qx39, ux39, hm⟩ := ck_some hm
         refine RL_pure (by exact wn0 rfl) (by rfl) (by rfl) (x_mul (by rfl) (by rfl) ux39) ?_
         refine RL_pure (by exact wn0 rfl) (by rfl) (by rfl) (x_move (v := .int .i64 x32) (by rfl)) ?_
         obtain ⟨x40, ex40, qx40, ux40, hm⟩ := ck_some hm
         refine RL_pure (by exact wn0 rfl) (by rfl) (by rfl) (x_add (by rfl) (by rfl) ux40) ?_
         obtain ⟨el41, h42, h43, he44, hm⟩ := idx_some hm
         obtain ⟨g46, o47, hA45⟩ := (H.rd (i := 0) (by rfl)).addr he44
         refine RL_pure (by exact wn0 rfl) (by rfl) (by rfl) (x_indexAddr sl23 sz3 (by rfl) (by rfl) hA45 h42 h43) ?_
         refine RL_pure (by exact wn0 rfl) (by rfl) (by rfl) (x_load (j := 0) (v := .int .i64 el41) sc3 (by rfl) (Rd.flatAt (n := 1) (H.rd (i := 0) (by rfl)) hA45 he44) (by rfl)) ?_
         refine RL_pure (by exact wn0 rfl) (by rfl) (by rfl) (x_min2 (by rfl) (by rfl)) ?_
         refine RL_pure (by exact wn0 rfl) (by rfl) (by rfl) (x_assign (v := .int .i64 (mn el24 el41)) (by rfl)) ?_
         refine RL_nil ?_
         refine W_region ?_
         refine RL_pure (by exact wn0 rfl) (by rfl) (by rfl) (x_move (v := .int .i64 1) (by rfl)) ?_
         refine RL_pure (by exact wn0 rfl) (by rfl) (by rfl) (x_add (c := 2) (by rfl) (by rfl) (by decide)) ?_
         refine RL_pure (by exact wn0 rfl) (by rfl) (by rfl) (x_assign (v := .int .i64 2) (by rfl)) ?_
         refine RL_nil ?_
         refine WU_succ ?_
         refine W_seq ?_
         refine W_seq ?_
         refine W_region ?_
         refine RL_pure (by exact wn0 rfl) (by rfl) (by rfl) (x_move (v := .int .i64 2) (by rfl)) ?_
         refine RL_pure (by exact wn0 rfl) (by rfl) (by rfl) (x_lss (by rfl) (by rfl)) ?_
         refine RL_nil ?_
         refine W_cond (t := true) (by first | rfl | decide) (fun _ => ?_) (fun hb => by cases hb)
         refine W_skip ?_
         refine W_seq ?_
         refine W_block ?_
         refine W_seq ?_
         refine W_region ?_
         refine RL_pure (by exact wn0 rfl) (by rfl) (by rfl) (x_move (v := .int .i64 y5_2) (by rfl)) ?_
         obtain ⟨x48, ex48, qx48, ux48, hm⟩ := ck_some hm
         refine RL_pure (by exact wn0 rfl) (by rfl) (by rfl) (x_mul (by rfl) (by rfl) ux48) ?_
         refine RL_pure (by exact wn0 rfl) (by rfl) (by rfl) (x_move (v := .int .i64 2) (by rfl)) ?_
         refine RL_pure (by exact wn0 rfl) (by rfl) (by rfl) (x_rem (by rfl) (by rfl) (by decide)) ?_
         obtain ⟨x49, ex49, qx49, ux49, hm⟩ := ck_some hm
         refine RL_pure (by exact wn0 rfl) (by rfl) (by rfl) (x_add (by rfl) (by rfl) ux49) ?_
         refine RL_pure (by exact wn0 rfl) (by rfl) (by rfl) (x_move (v := .int .i64 y4_1) (by rfl)) ?_
         obtain ⟨x50, ex50, qx50, ux50, hm⟩ := ck_some hm
         refine RL_pure (by exact wn0 rfl) (by rfl) (by rfl) (x_mul (by rfl) (by rfl) ux50) ?_
         refine RL_pure (by exact wn0 rfl) (by rfl) (by rfl) (x_move (v := .int .i64 2) (by rfl)) ?_
         obtain ⟨x51, ex51, qx51, ux51, hm⟩ := ck_some hm
         refine RL_pure (by exact wn0 rfl) (by rfl) (by rfl) (x_quo (by rfl) (by rfl) (by decide) ux51) ?_
         obtain ⟨x52, ex52, qx52, ux52, hm⟩ := ck_some hm
         refine RL_pure (by exact wn0 rfl) (by rfl) (by rfl) (x_add (by rfl) (by rfl) ux52) ?_
         refine RL_pure (by exact wn0 rfl) (by rfl) (by rfl) (x_assign (v := .int .i64 x49) (by rfl)) ?_
         refine RL_pure (by exact wn0 rfl) (by rfl) (by rfl) (x_assign (v := .int .i64 x52) (by rfl)) ?_
         refine RL_nil ?_
         refine W_seq ?_
         refine W_region ?_
         refine RL_pure (by exact wn0 rfl) (by rfl) (by rfl) (x_move (v := .int .i64 x49) (by rfl)) ?_
         refine RL_pure (by exact wn0 rfl) (by rfl) (by rfl) (x_fieldAddr fo54_0 (by rfl)) ?_
         refine RL_pure (by exact wn0 rfl) (by rfl) (by rfl) (x_load (j := 0) (v := .int .i64 a0.W) sc3 (by rfl) (H.cells (i := 0) (by rfl)) (by rfl)) ?_
         refine RL_pure (by exact wn0 rfl) (by rfl) (by rfl) (x_lss (by rfl) (by rfl)) ?_
         refine RL_pure (by exact wn0 rfl) (by rfl) (by rfl) (x_move (v := .bool (decide (x49 < a0.W))) (by rfl)) ?_
         obtain ⟨b53, hmS, hm⟩ := bind_some hm
         refine RL_cut 5 (fun r' w' => Agr [(66, .bool b53), (1, .pointer (some ⟨b5, 0, none⟩)), (2, .pointer (some ⟨b7, 0, none⟩)), (3, .pointer (some ⟨b13, 0, none⟩)), (4, .int .i64 y4_1), (5, .int .i64 y5_2), (6, .int .i64 (mn el24 el41)), (7, .int .i64 2), (8, .int .i64 x49), (9, .int .i64 x52)] r' ∧ Sep ok w w' [.blk b5 54 [.int .i64 a0.W, .int .i64 a0.H, .slice A1 a0.Low.length cp2], .blk b7 54 [.int .i64 0, .int .i64 0, .slice none 0 0], .blk b13 54 [.int .i64 x10, .int .i64 x12, .slice A_row72_2 l_row72_2.length c_row72_2], .row (.slice A_row72_2 l_row72_2.length c_row72_2) 3 kInt.sz l_row72_2.length cs_row72_2] [RE.rd kInt A1 cp2 a0.Low, RE.chunks kInt cs_row72_2 l_row72_2]) ?_ ?_
         ·cases hbS : (decide (x49 < a0.W))
          ·have hm := cond_f hbS hmS
           refine RL_cons (OpR_off (by exact wn2 rfl rfl rfl rfl) (by rfl) (by rfl) ?_)
           refine RL_cons (OpR_off (by exact wn2 rfl rfl rfl rfl) (by rfl) (by rfl) ?_)
           refine RL_cons (OpR_off (by exact wn2 rfl rfl rfl rfl) (by rfl) (by rfl) ?_)
           refine RL_cons (OpR_off (by exact wn2 rfl rfl rfl rfl) (by rfl) (by rfl) ?_)
           refine RL_pure (by exact wn0 rfl) (by rfl) (by rfl) (x_pick_f (v := .bool false) (by rfl) (by rfl)) ?_
           refine RL_nil ?_
           exact ⟨⟨congrArg Value.bool (Option.some.inj hm), rfl, rfl, rfl, rfl, rfl, rfl, rfl, rfl, rfl, trivial⟩, H⟩
          ·have hm := cond_t hbS hmS
           refine RL_pure (by exact wn1 rfl rfl rfl rfl) (by rfl) (by rfl) (x_move (v := .int .i64 x52) (by rfl)) ?_
           refine RL_pure (by exact wn1 rfl rfl rfl rfl) (by rfl) (by rfl) (x_fieldAddr fo54_1 (by rfl)) ?_
           refine RL_pure (by exact wn1 rfl rfl rfl rfl) (by rfl) (by rfl) (x_load (j := 1) (v := .int .i64 a0.H) sc3 (by rfl) (H.cells (i := 0) (by rfl)) (by rfl)) ?_
           refine RL_pure (by exact wn1 rfl rfl rfl rfl) (by rfl) (by rfl) (x_lss (by rfl) (by rfl)) ?_
           refine RL_pure (by exact wn0 rfl) (by rfl) (by rfl) (x_pick_t (v := .bool (decide (x52 < a0.H))) (by rfl) (by rfl)) ?_
           refine RL_nil ?_
           exact ⟨⟨congrArg Value.bool (Option.some.inj hm), rfl, rfl, rfl, rfl, rfl, rfl, rfl, rfl, rfl, trivial⟩, H⟩
         ·rintro r' w' ⟨hA, H⟩
          obtain ⟨r54, rfl⟩ := regen _ hA; clear hA
          obtain ⟨w55, rfl⟩ : ∃ W : World, W = w' := ⟨_, rfl⟩
          show RL _ _ _ _ _ _ _
          refine RL_nil ?_
          refine W_cond (by rfl) (fun hb => ?_) (fun hb => ?_)
          ·have hm := cond_t hb hm
           refine W_region ?_
           refine RL_pure (by exact wn0 rfl) (by rfl) (by rfl) (x_move (v := .int .i64 (mn el24 el41)) (by rfl)) ?_
           refine RL_pure (by exact wn0 rfl) (by rfl) (by rfl) (x_fieldAddr fo54_2 (by rfl)) ?_
           refine RL_pure (by exact wn0 rfl) (by rfl) (by rfl) (x_load (j := 2) (v := .slice A1 a0.Low.length cp2) sc23 (by rfl) (H.cells (i := 0) (by rfl)) (by rfl)) ?_
           refine RL_pure (by exact wn0 rfl) (by rfl) (by rfl) (x_move (v := .int .i64 x52) (by rfl)) ?_
           refine RL_pure (by exact wn0 rfl) (by rfl) (by rfl) (x_fieldAddr fo54_0 (by rfl)) ?_
           refine RL_pure (by exact wn0 rfl) (by rfl) (by rfl) (x_load (j := 0) (v := .int .i64 a0.W) sc3 (by rfl) (H.cells (i := 0) (by rfl)) (by rfl)) ?_
           obtain ⟨x56, ex56, qx56, ux56, hm⟩ := ck_some hm
           refine RL_pure (by exact wn0 rfl) (by rfl) (by rfl) (x_mul (by rfl) (by rfl) ux56) ?_
           refine RL_pure (by exact wn0 rfl) (by rfl) (by rfl) (x_move (v := .int .i64 x49) (by rfl)) ?_
           obtain ⟨x57, ex57, qx57, ux57, hm⟩ := ck_some hm
           refine RL_pure (by exact wn0 rfl) (by rfl) (by rfl) (x_add (by rfl) (by rfl) ux57) ?_
           obtain ⟨el58, h59, h60, he61, hm⟩ := idx_some hm
           obtain ⟨g63, o64, hA62⟩ := (H.rd (i := 0) (by rfl)).addr he61
           refine RL_pure (by exact wn0 rfl) (by rfl) (by rfl) (x_indexAddr sl23 sz3 (by rfl) (by rfl) hA62 h59 h60) ?_
           refine RL_pure (by exact wn0 rfl) (by rfl) (by rfl) (x_load (j := 0) (v := .int .i64 el58) sc3 (by rfl) (Rd.flatAt (n := 1) (H.rd (i := 0) (by rfl)) hA62 he61) (by rfl)) ?_
           refine RL_pure (by exact wn0 rfl) (by rfl) (by rfl) (x_min2 (by rfl) (by rfl)) ?_
           refine RL_pure (by exact wn0 rfl) (by rfl) (by rfl) (x_assign (v := .int .i64 (mn (mn el24 el41) el58)) (by rfl)) ?_
           refine RL_nil ?_
           refine W_region ?_
           refine RL_pure (by exact wn0 rfl) (by rfl) (by rfl) (x_move (v := .int .i64 2) (by rfl)) ?_
           refine RL_pure (by exact wn0 rfl) (by rfl) (by rfl) (x_add (c := 3) (by rfl) (by rfl) (by decide)) ?_
           refine RL_pure (by exact wn0 rfl) (by rfl) (by rfl) (x_assign (v := .int .i64 3) (by rfl)) ?_
           refine RL_nil ?_
           refine WU_succ ?_
           refine W_seq ?_
           refine W_seq ?_
           refine W_region ?_
           refine RL_pure (by exact wn0 rfl) (by rfl) (by rfl) (x_move (v := .int .i64 3) (by rfl)) ?_
           refine RL_pure (by exact wn0 rfl) (by rfl) (by rfl) (x_lss (by rfl) (by rfl)) ?_
           refine RL_nil ?_
           refine W_cond (t := true) (by first | rfl | decide) (fun _ => ?_) (fun hb => by cases hb)
           refine W_skip ?_
           refine W_seq ?_
           refine W_block ?_
           refine W_seq ?_
           refine W_region ?_
           refine RL_pure (by exact wn0 rfl) (by rfl) (by rfl) (x_move (v := .int .i64 y5_2) (by rfl)) ?_
           obtain ⟨x65, ex65, qx65, ux65, hm⟩ := ck_some hm
           refine RL_pure (by exact wn0 rfl) (by rfl) (by rfl) (x_mul (by rfl) (by rfl) ux65) ?_
           refine RL_pure (by exact wn0 rfl) (by rfl) (by rfl) (x_move (v := .int .i64 3) (by rfl)) ?_
           refine RL_pure (by exact wn0 rfl) (by rfl) (by rfl) (x_rem (by rfl) (by rfl) (by decide)) ?_
           obtain ⟨x66, ex66, qx66, ux66, hm⟩ := ck_some hm
           refine RL_pure (by exact wn0 rfl) (by rfl) (by rfl) (x_add (by rfl) (by rfl) ux66) ?_
           refine RL_pure (by exact wn0 rfl) (by rfl) (by rfl) (x_move (v := .int .i64 y4_1) (by rfl)) ?_
           obtain ⟨x67, ex67, qx67, ux67, hm⟩ := ck_some hm
           refine RL_pure (by exact wn0 rfl) (by rfl) (by rfl) (x_mul (by rfl) (by rfl) ux67) ?_
           refine RL_pure (by exact wn0 rfl) (by rfl) (by rfl) (x_move (v := .int .i64 3) (by rfl)) ?_
           obtain ⟨x68, ex68, qx68, ux68, hm⟩ := ck_some hm
           refine RL_pure (by exact wn0 rfl) (by rfl) (by rfl) (x_quo (by rfl) (by rfl) (by decide) ux68) ?_
           obtain ⟨x69, ex69, qx69, ux69, hm⟩ := ck_some hm
           refine RL_pure (by exact wn0 rfl) (by rfl) (by rfl) (x_add (by rfl) (by rfl) ux69) ?_
           refine RL_pure (by exact wn0 rfl) (by rfl) (by rfl) (x_assign (v := .int .i64 x66) (by rfl)) ?_
           refine RL_pure (by exact wn0 rfl) (by rfl) (by rfl) (x_assign (v := .int .i64 x69) (by rfl)) ?_
           refine RL_nil ?_
           refine W_seq ?_
           refine W_region ?_
           refine RL_pure (by exact wn0 rfl) (by rfl) (by rfl) (x_move (v := .int .i64 x66) (by rfl)) ?_
           refine RL_pure (by exact wn0 rfl) (by rfl) (by rfl) (x_fieldAddr fo54_0 (by rfl)) ?_
           refine RL_pure (by exact wn0 rfl) (by rfl) (by rfl) (x_load (j := 0) (v := .int .i64 a0.W) sc3 (by rfl) (H.cells (i := 0) (by rfl)) (by rfl)) ?_
           refine RL_pure (by exact wn0 rfl) (by rfl) (by rfl) (x_lss (by rfl) (by rfl)) ?_
           refine RL_pure (by exact wn0 rfl) (by rfl) (by rfl) (x_move (v := .bool (decide (x66 < a0.W))) (by rfl)) ?_
           obtain ⟨b70, hmS, hm⟩ := bind_some hm
           refine RL_cut 5 (fun r' w' => Agr [(66, .bool b70), (1, .pointer (some ⟨b5, 0, none⟩)), (2, .pointer (some ⟨b7, 0, none⟩)), (3, .pointer (some ⟨b13, 0, none⟩)), (4, .int .i64 y4_1), (5, .int .i64 y5_2), (6, .int .i64 (mn (mn el24 el41) el58)), (7, .int .i64 3), (8, .int .i64 x66), (9, .int .i64 x69)] r' ∧ Sep ok w w' [.blk b5 54 [.int .i64 a0.W, .int .i64 a0.H, .slice A1 a0.Low.length cp2], .blk b7 54 [.int .i64 0, .int .i64 0, .slice none 0 0], .blk b13 54 [.int .i64 x10, .int .i64 x12, .slice A_row72_2 l_row72_2.length c_row72_2], .row (.slice A_row72_2 l_row72_2.length c_row72_2) 3 kInt.sz l_row72_2.length cs_row72_2] [RE.rd kInt A1 cp2 a0.Low, RE.chunks kInt cs_row72_2 l_row72_2]) ?_ ?_
           ·cases hbS : (decide (x66 < a0.W))
            ·have hm := cond_f hbS hmS
             refine RL_cons (OpR_off (by exact wn2 rfl rfl rfl rfl) (by rfl) (by rfl) ?_)
             refine RL_cons (OpR_off (by exact wn2 rfl rfl rfl rfl) (by rfl) (by rfl) ?_)
             refine RL_cons (OpR_off (by exact wn2 rfl rfl rfl rfl) (by rfl) (by rfl) ?_)
             refine RL_cons (OpR_off (by exact wn2 rfl rfl rfl rfl) (by rfl) (by rfl) ?_)
             refine RL_pure (by exact wn0 rfl) (by rfl) (by rfl) (x_pick_f (v := .bool false) (by rfl) (by rfl)) ?_
             refine RL_nil ?_
             exact ⟨⟨congrArg Value.bool (Option.some.inj hm), rfl, rfl, rfl, rfl, rfl, rfl, rfl, rfl, rfl, trivial⟩, H⟩
            ·have hm := cond_t hbS hmS
             refine RL_pure (by exact wn1 rfl rfl rfl rfl) (by rfl) (by rfl) (x_move (v := .int .i64 x69) (by rfl)) ?_
             refine RL_pure (by exact wn1 rfl rfl rfl rfl) (by rfl) (by rfl) (x_fieldAddr fo54_1 (by rfl)) ?_
             refine RL_pure (by exact wn1 rfl rfl rfl rfl) (by rfl) (by rfl) (x_load (j := 1) (v := .int .i64 a0.H) sc3 (by rfl) (H.cells (i := 0) (by rfl)) (by rfl)) ?_
             refine RL_pure (by exact wn1 rfl rfl rfl rfl) (by rfl) (by rfl) (x_lss (by rfl) (by rfl)) ?_
             refine RL_pure (by exact wn0 rfl) (by rfl) (by rfl) (x_pick_t (v := .bool (decide (x69 < a0.H))) (by rfl) (by rfl)) ?_
             refine RL_nil ?_
             exact ⟨⟨congrArg Value.bool (Option.some.inj hm), rfl, rfl, rfl, rfl, rfl, rfl, rfl, rfl, rfl, trivial⟩, H⟩
           ·rintro r' w' ⟨hA, H⟩
            obtain ⟨r71, rfl⟩ := regen _ hA; clear hA
            obtain ⟨w72, rfl⟩ : ∃ W : World, W = w' := ⟨_, rfl⟩
            show RL _ _ _ _ _ _ _
            refine RL_nil ?_
            refine W_cond (by rfl) (fun hb => ?_) (fun hb => ?_)
            ·have hm := cond_t hb hm
             refine W_region ?_
             refine RL_pure (by exact wn0 rfl) (by rfl) (by rfl) (x_move (v := .int .i64 (mn (mn el24 el41) el58)) (by rfl)) ?_
             refine RL_pure (by exact wn0 rfl) (by rfl) (by rfl) (x_fieldAddr fo54_2 (by rfl)) ?_
             refine RL_pure (by exact wn0 rfl) (by rfl) (by rfl) (x_load (j := 2) (v := .slice A1 a0.Low.length cp2) sc23 (by rfl) (H.cells (i := 0) (by rfl)) (by rfl)) ?_
             refine RL_pure (by exact wn0 rfl) (by rfl) (by rfl) (x_move (v := .int .i64 x69) (by rfl)) ?_
             refine RL_pure (by exact wn0 rfl) (by rfl) (by rfl) (x_fieldAddr fo54_0 (by rfl)) ?_
             refine RL_pure (by exact wn0 rfl) (by rfl) (by rfl) (x_load (j := 0) (v := .int .i64 a0.W) sc3 (by rfl) (H.cells (i := 0) (by rfl)) (by rfl)) ?_
             obtain ⟨x73, ex73, qx73, ux73, hm⟩ := ck_some hm
             refine RL_pure (by exact wn0 rfl) (by rfl) (by rfl) (x_mul (by rfl) (by rfl) ux73) ?_
             refine RL_pure (by exact wn0 rfl) (by rfl) (by rfl) (x_move (v := .int .i64 x66) (by rfl)) ?_
             obtain ⟨x74, ex74, qx74, ux74, hm⟩ := ck_some hm
             refine RL_pure (by exact wn0 rfl) (by rfl) (by rfl) (x_add (by rfl) (by rfl) ux74) ?_
             obtain ⟨el75, h76, h77, he78, hm⟩ := idx_some hm
             obtain ⟨g80, o81, hA79⟩ := (H.rd (i := 0) (by rfl)).addr he78
             refine RL_pure (by exact wn0 rfl) (by rfl) (by rfl) (x_indexAddr sl23 sz3 (by rfl) (by rfl) hA79 h76 h77) ?_
             refine RL_pure (by exact wn0 rfl) (by rfl) (by rfl) (x_load (j := 0) (v := .int .i64 el75) sc3 (by rfl) (Rd.flatAt (n := 1) (H.rd (i := 0) (by rfl)) hA79 he78) (by rfl)) ?_
             refine RL_pure (by exact wn0 rfl) (by rfl) (by rfl) (x_min2 (by rfl) (by rfl)) ?_
             refine RL_pure (by exact wn0 rfl) (by rfl) (by rfl) (x_assign (v := .int .i64 (mn (mn (mn el24 el41) el58) el75)) (by rfl)) ?_
             refine RL_nil ?_
             refine W_region ?_
             refine RL_pure (by exact wn0 rfl) (by rfl) (by rfl) (x_move (v := .int .i64 3) (by rfl)) ?_
             refine RL_pure (by exact wn0 rfl) (by rfl) (by rfl) (x_add (c := 4) (by rfl) (by rfl) (by decide)) ?_
             refine RL_pure (by exact wn0 rfl) (by rfl) (by rfl) (x_assign (v := .int .i64 4) (by rfl)) ?_
             refine RL_nil ?_
             refine WU_succ ?_
             refine W_seq ?_
             refine W_seq ?_
             refine W_region ?_
             refine RL_pure (by exact wn0 rfl) (by rfl) (by rfl) (x_move (v := .int .i64 4) (by rfl)) ?_
             refine RL_pure (by exact wn0 rfl) (by rfl) (by rfl) (x_lss (by rfl) (by rfl)) ?_
             refine RL_nil ?_
             refine W_cond (t := false) (by first | rfl | decide) (fun hb => by cases hb) (fun _ => ?_)
             refine W_exit ?_
             refine W_region ?_
             refine RL_pure (by exact wn0 rfl) (by rfl) (by rfl) (x_fieldAddr fo54_2 (by rfl)) ?_
             refine RL_pure (by exact wn0 rfl) (by rfl) (by rfl) (x_load (j := 2) (v := .slice A_row72_2 l_row72_2.length c_row72_2) sc23 (by rfl) (H.cells (i := 2) (by rfl)) (by rfl)) ?_
             refine RL_pure (by exact wn0 rfl) (by rfl) (by rfl) (x_move (v := .int .i64 (mn (mn (mn el24 el41) el58) el75)) (by rfl)) ?_
             refine RL_cons (O_buildSlice (vs := [(0, .int .i64 (mn (mn (mn el24 el41) el58) el75))]) (cs := [.int .i64 (mn (mn (mn el24 el41) el58) el75)]) (by exact wn0 rfl) (by rfl) sl23 sz3 ze3 (by rfl) (by rfl) (by rfl) (by kernel_rfl) H (fun w83 b82 (H : Sep ok w w83 [.blk b5 54 [.int .i64 a0.W, .int .i64 a0.H, .slice A1 a0.Low.length cp2], .blk b7 54 [.int .i64 0, .int .i64 0, .slice none 0 0], .blk b13 54 [.int .i64 x10, .int .i64 x12, .slice A_row72_2 l_row72_2.length c_row72_2], .row (.slice A_row72_2 l_row72_2.length c_row72_2) 3 kInt.sz l_row72_2.length cs_row72_2, .blk b82 3 [.int .i64 (mn (mn (mn el24 el41) el58) el75)]] [RE.rd kInt A1 cp2 a0.Low, RE.chunks kInt cs_row72_2 l_row72_2]) => ?_))
             obtain ⟨l88, hl89, hb90, hm⟩ := apd_some hm
             refine RL_cons (O_append (D := kInt) (i := 3) (j := 1) (o := 0) (y := (mn (mn (mn el24 el41) el58) el75)) (by exact wn0 rfl) (by rfl) (by rfl) (by rfl) H (by rfl) (by rfl) (H.cells (i := 4) (by rfl)) rfl hl89 sl23 sz3 by3 ze3 (by rfl) (by rfl) hb90 (by rfl) (fun w84 A85 cp86 cs87 (H : Sep ok w w84 [.blk b5 54 [.int .i64 a0.W, .int .i64 a0.H, .slice A1 a0.Low.length cp2], .blk b7 54 [.int .i64 0, .int .i64 0, .slice none 0 0], .blk b13 54 [.int .i64 x10, .int .i64 x12, .slice A_row72_2 l_row72_2.length c_row72_2], .row (.slice A85 l88.length cp86) 3 kInt.sz l88.length cs87, .blk b82 3 [.int .i64 (mn (mn (mn el24 el41) el58) el75)]] [RE.rd kInt A1 cp2 a0.Low, RE.chunks kInt cs87 l88]) => ?_))
             refine RL_pure (by exact wn0 rfl) (by rfl) (by rfl) (x_fieldAddr fo54_2 (by rfl)) ?_
             refine RL_cons (O_store (i := 2) (off := 2) (by exact wn0 rfl) (by rfl) (by rfl) H (by rfl) (vs := [.slice A85 l88.length cp86]) (by rfl) sz23 (by rfl) (by rfl) (by rfl) (fun w91 (H : Sep ok w w91 [.blk b5 54 [.int .i64 a0.W, .int .i64 a0.H, .slice A1 a0.Low.length cp2], .blk b7 54 [.int .i64 0, .int .i64 0, .slice none 0 0], .blk b13 54 [.int .i64 x10, .int .i64 x12, .slice A85 l88.length cp86], .row (.slice A85 l88.length cp86) 3 kInt.sz l88.length cs87, .blk b82 3 [.int .i64 (mn (mn (mn el24 el41) el58) el75)]] [RE.rd kInt A1 cp2 a0.Low, RE.chunks kInt cs87 l88]) => ?_))
             refine RL_nil ?_
             refine W_region ?_
             refine RL_pure (by exact wn0 rfl) (by rfl) (by rfl) (x_move (v := .int .i64 y5_2) (by rfl)) ?_
             obtain ⟨x92, ex92, qx92, ux92, hm⟩ := ck_some hm
             refine RL_pure (by exact wn0 rfl) (by rfl) (by rfl) (x_add (by rfl) (by rfl) ux92) ?_
             refine RL_pure (by exact wn0 rfl) (by rfl) (by rfl) (x_assign (v := .int .i64 x92) (by rfl)) ?_
             refine RL_nil ?_
             subst hrec2
             exact ⟨k2, Nat.lt_succ_self k2, l88, x92, A85, cp86, cs87, hm, ⟨rfl, rfl, rfl, rfl, rfl, trivial⟩, (H).takeL 4⟩
            ·have hm := cond_f hb hm
             refine W_skip ?_
             refine W_region ?_
             refine RL_pure (by exact wn0 rfl) (by rfl) (by rfl) (x_move (v := .int .i64 3) (by rfl)) ?_
             refine RL_pure (by exact wn0 rfl) (by rfl) (by rfl) (x_add (c := 4) (by rfl) (by rfl) (by decide)) ?_
             refine RL_pure (by exact wn0 rfl) (by rfl) (by rfl) (x_assign (v := .int .i64 4) (by rfl)) ?_
             refine RL_nil ?_
             refine WU_succ ?_
             refine W_seq ?_
             refine W_seq ?_
             refine W_region ?_
             refine RL_pure (by exact wn0 rfl) (by rfl) (by rfl) (x_move (v := .int .i64 4) (by rfl)) ?_
             refine RL_pure (by exact wn0 rfl) (by rfl) (by rfl) (x_lss (by rfl) (by rfl)) ?_
             refine RL_nil ?_
             refine W_cond (t := false) (by first | rfl | decide) (fun hb => by cases hb) (fun _ => ?_)
             refine W_exit ?_
             refine W_region ?_
             refine RL_pure (by exact wn0 rfl) (by rfl) (by rfl) (x_fieldAddr fo54_2 (by rfl)) ?_
             refine RL_pure (by exact wn0 rfl) (by rfl) (by rfl) (x_load (j := 2) (v := .slice A_row72_2 l_row72_2.length c_row72_2) sc23 (by rfl) (H.cells (i := 2) (by rfl)) (by rfl)) ?_
             refine RL_pure (by exact wn0 rfl) (by rfl) (by rfl) (x_move (v := .int .i64 (mn (mn el24 el41) el58)) (by rfl)) ?_
             refine RL_cons (O_buildSlice (vs := [(0, .int .i64 (mn (mn el24 el41) el58))]) (cs := [.int .i64 (mn (mn el24 el41) el58)]) (by exact wn0 rfl) (by rfl) sl23 sz3 ze3 (by rfl) (by rfl) (by rfl) (by kernel_rfl) H (fun w94 b93 (H : Sep ok w w94 [.blk b5 54 [.int .i64 a0.W, .int .i64 a0.H, .slice A1 a0.Low.length cp2], .blk b7 54 [.int .i64 0, .int .i64 0, .slice none 0 0], .blk b13 54 [.int .i64 x10, .int .i64 x12, .slice A_row72_2 l_row72_2.length c_row72_2], .row (.slice A_row72_2 l_row72_2.length c_row72_2) 3 kInt.sz l_row72_2.length cs_row72_2, .blk b93 3 [.int .i64 (mn (mn el24 el41) el58)]] [RE.rd kInt A1 cp2 a0.Low, RE.chunks kInt cs_row72_2 l_row72_2]) => ?_))
             obtain ⟨l99, hl100, hb101, hm⟩ := apd_some hm
             refine RL_cons (O_append (D := kInt) (i := 3) (j := 1) (o := 0) (y := (mn (mn el24 el41) el58)) (by exact wn0 rfl) (by rfl) (by rfl) (by rfl) H (by rfl) (by rfl) (H.cells (i := 4) (by rfl)) rfl hl100 sl23 sz3 by3 ze3 (by rfl) (by rfl) hb101 (by rfl) (fun w95 A96 cp97 cs98 (H : Sep ok w w95 [.blk b5 54 [.int .i64 a0.W, .int .i64 a0.H, .slice A1 a0.Low.length cp2], .blk b7 54 [.int .i64 0, .int .i64 0, .slice none 0 0], .blk b13 54 [.int .i64 x10, .int .i64 x12, .slice A_row72_2 l_row72_2.length c_row72_2], .row (.slice A96 l99.length cp97) 3 kInt.sz l99.length cs98, .blk b93 3 [.int .i64 (mn (mn el24 el41) el58)]] [RE.rd kInt A1 cp2 a0.Low, RE.chunks kInt cs98 l99]) => ?_))
             refine RL_pure (by exact wn0 rfl) (by rfl) (by rfl) (x_fieldAddr fo54_2 (by rfl)) ?_
             refine RL_cons (O_store (i := 2) (off := 2) (by exact wn0 rfl) (by rfl) (by rfl) H (by rfl) (vs := [.slice A96 l99.length cp97]) (by rfl) sz23 (by rfl) (by rfl) (by rfl) (fun w102 (H : Sep ok w w102 [.blk b5 54 [.int .i64 a0.W, .int .i64 a0.H, .slice A1 a0.Low.length cp2], .blk b7 54 [.int .i64 0, .int .i64 0, .slice none 0 0], .blk b13 54 [.int .i64 x10, .int .i64 x12, .slice A96 l99.length cp97], .row (.slice A96 l99.length cp97) 3 kInt.sz l99.length cs98, .blk b93 3 [.int .i64 (mn (mn el24 el41) el58)]] [RE.rd kInt A1 cp2 a0.Low, RE.chunks kInt cs98 l99]) => ?_))
             refine RL_nil ?_
             refine W_region ?_
             refine RL_pure (by exact wn0 rfl) (by rfl) (by rfl) (x_move (v := .int .i64 y5_2) (by rfl)) ?_
             obtain ⟨x103, ex103, qx103, ux103, hm⟩ := ck_some hm
             refine RL_pure (by exact wn0 rfl) (by rfl) (by rfl) (x_add (by rfl) (by rfl) ux103) ?_
             refine RL_pure (by exact wn0 rfl) (by rfl) (by rfl) (x_assign (v := .int .i64 x103) (by rfl)) ?_
             refine RL_nil ?_
             subst hrec2
             exact ⟨k2, Nat.lt_succ_self k2, l99, x103, A96, cp97, cs98, hm, ⟨rfl, rfl, rfl, rfl, rfl, trivial⟩, (H).takeL 4⟩
          ·have hm := cond_f hb hm
           refine W_skip ?_
           refine W_region ?_
           refine RL_pure (by exact wn0 rfl) (by rfl) (by rfl) (x_move (v := .int .i64 2) (by rfl)) ?_
           refine RL_pure (by exact wn0 rfl) (by rfl) (by rfl) (x_add (c := 3) (by rfl) (by rfl) (by decide)) ?_
           refine RL_pure (by exact wn0 rfl) (by rfl) (by rfl) (x_assign (v := .int .i64 3) (by rfl)) ?_
           refine RL_nil ?_
           refine WU_succ ?_
           refine W_seq ?_
           refine W_seq ?_
           refine W_region ?_
           refine RL_pure (by exact wn0 rfl) (by rfl) (by rfl) (x_move (v := .int .i64 3) (by rfl)) ?_
           refine RL_pure (by exact wn0 rfl) (by rfl) (by rfl) (x_lss (by rfl) (by rfl)) ?_
           refine RL_nil ?_
           refine W_cond (t := true) (by first | rfl | decide) (fun _ => ?_) (fun hb => by cases hb)
           refine W_skip ?_
           refine W_seq ?_
           refine W_block ?_
           refine W_seq ?_
           refine W_region ?_
           refine RL_pure (by exact wn0 rfl) (by rfl) (by rfl) (x_move (v := .int .i64 y5_2) (by rfl)) ?_
           obtain ⟨x104, ex104, qx104, ux104, hm⟩ := ck_some hm
           refine RL_pure (by exact wn0 rfl) (by rfl) (by rfl) (x_mul (by rfl) (by rfl) ux104) ?_
           refine RL_pure (by exact wn0 rfl) (by rfl) (by rfl) (x_move (v := .int .i64 3) (by rfl)) ?_
           refine RL_pure (by exact wn0 rfl) (by rfl) (by rfl) (x_rem (by rfl) (by rfl) (by decide)) ?_
           obtain ⟨x105, ex105, qx105, ux105, hm⟩ := ck_some hm
           refine RL_pure (by exact wn0 rfl) (by rfl) (by rfl) (x_add (by rfl) (by rfl) ux105) ?_
           refine RL_pure (by exact wn0 rfl) (by rfl) (by rfl) (x_move (v := .int .i64 y4_1) (by rfl)) ?_
           obtain ⟨x106, ex106, qx106, ux106, hm⟩ := ck_some hm
           refine RL_pure (by exact wn0 rfl) (by rfl) (by rfl) (x_mul (by rfl) (by rfl) ux106) ?_
           refine RL_pure (by exact wn0 rfl) (by rfl) (by rfl) (x_move (v := .int .i64 3) (by rfl)) ?_
           obtain ⟨x107, ex107, qx107, ux107, hm⟩ := ck_some hm
           refine RL_pure (by exact wn0 rfl) (by rfl) (by rfl) (x_quo (by rfl) (by rfl) (by decide) ux107) ?_
           obtain ⟨x108, ex108, qx108, ux108, hm⟩ := ck_some hm
           refine RL_pure (by exact wn0 rfl) (by rfl) (by rfl) (x_add (by rfl) (by rfl) ux108) ?_
           refine RL_pure (by exact wn0 rfl) (by rfl) (by rfl) (x_assign (v := .int .i64 x105) (by rfl)) ?_
           refine RL_pure (by exact wn0 rfl) (by rfl) (by rfl) (x_assign (v := .int .i64 x108) (by rfl)) ?_
           refine RL_nil ?_
           refine W_seq ?_
           refine W_region ?_
           refine RL_pure (by exact wn0 rfl) (by rfl) (by rfl) (x_move (v := .int .i64 x105) (by rfl)) ?_
           refine RL_pure (by exact wn0 rfl) (by rfl) (by rfl) (x_fieldAddr fo54_0 (by rfl)) ?_
           refine RL_pure (by exact wn0 rfl) (by rfl) (by rfl) (x_load (j := 0) (v := .int .i64 a0.W) sc3 (by rfl) (H.cells (i := 0) (by rfl)) (by rfl)) ?_
           refine RL_pure (by exact wn0 rfl) (by rfl) (by rfl) (x_lss (by rfl) (by rfl)) ?_
           refine RL_pure (by exact wn0 rfl) (by rfl) (by rfl) (x_move (v := .bool (decide (x105 < a0.W))) (by rfl)) ?_
           obtain ⟨b109, hmS, hm⟩ := bind_some hm
           refine RL_cut 5 (fun r' w' => Agr [(66, .bool b109), (1, .pointer (some ⟨b5, 0, none⟩)), (2, .pointer (some ⟨b7, 0, none⟩)), (3, .pointer (some ⟨b13, 0, none⟩)), (4, .int .i64 y4_1), (5, .int .i64 y5_2), (6, .int .i64 (mn el24 el41)), (7, .int .i64 3), (8, .int .i64 x105), (9, .int .i64 x108)] r' ∧ Sep ok w w' [.blk b5 54 [.int .i64 a0.W, .int .i64 a0.H, .slice A1 a0.Low.length cp2], .blk b7 54 [.int .i64 0, .int .i64 0, .slice none 0 0], .blk b13 54 [.int .i64 x10, .int .i64 x12, .slice A_row72_2 l_row72_2.length c_row72_2], .row (.slice A_row72_2 l_row72_2.length c_row72_2) 3 kInt.sz l_row72_2.length cs_row72_2] [RE.rd kInt A1 cp2 a0.Low, RE.chunks kInt cs_row72_2 l_row72_2]) ?_ ?_
           ·cases hbS : (decide (x105 < a0.W))
            ·have hm := cond_f hbS hmS
             refine RL_cons (OpR_off (by exact wn2 rfl rfl rfl rfl) (by rfl) (by rfl) ?_)
             refine RL_cons (OpR_off (by exact wn2 rfl rfl rfl rfl) (by rfl) (by rfl) ?_)
             refine RL_cons (OpR_off (by exact wn2 rfl rfl rfl rfl) (by rfl) (by rfl) ?_)
             refine RL_cons (OpR_off (by exact wn2 rfl rfl rfl rfl) (by rfl) (by rfl) ?_)
             refine RL_pure (by exact wn0 rfl) (by rfl) (by rfl) (x_pick_f (v := .bool false) (by rfl) (by rfl)) ?_
             refine RL_nil ?_
             exact ⟨⟨congrArg Value.bool (Option.some.inj hm), rfl, rfl, rfl, rfl, rfl, rfl, rfl, rfl, rfl, trivial⟩, H⟩
            ·have hm := cond_t hbS hmS
             refine RL_pure (by exact wn1 rfl rfl rfl rfl) (by rfl) (by rfl) (x_move (v := .int .i64 x108) (by rfl)) ?_
             refine RL_pure (by exact wn1 rfl rfl rfl rfl) (by rfl) (by rfl) (x_fieldAddr fo54_1 (by rfl)) ?_
             refine RL_pure (by exact wn1 rfl rfl rfl rfl) (by rfl) (by rfl) (x_load (j := 1) (v := .int .i64 a0.H) sc3 (by rfl) (H.cells (i := 0) (by rfl)) (by rfl)) ?_
             refine RL_pure (by exact wn1 rfl rfl rfl rfl) (by rfl) (by rfl) (x_lss (by rfl) (by rfl)) ?_
             refine RL_pure (by exact wn0 rfl) (by rfl) (by rfl) (x_pick_t (v := .bool (decide (x108 < a0.H))) (by rfl) (by rfl)) ?_
             refine RL_nil ?_
             exact ⟨⟨congrArg Value.bool (Option.some.inj hm), rfl, rfl, rfl, rfl, rfl, rfl, rfl, rfl, rfl, trivial⟩, H⟩
           ·rintro r' w' ⟨hA, H⟩
            obtain ⟨r110, rfl⟩ := regen _ hA; clear hA
            obtain ⟨w111, rfl⟩ : ∃ W : World, W = w' := ⟨_, rfl⟩
            show RL _ _ _ _ _ _ _
            refine RL_nil ?_
            refine W_cond (by rfl) (fun hb => ?_) (fun hb => ?_)
            ·have hm := cond_t hb hm
             refine W_region ?_
             refine RL_pure (by exact wn0 rfl) (by rfl) (by rfl) (x_move (v := .int .i64 (mn el24 el41)) (by rfl)) ?_
             refine RL_pure (by exact wn0 rfl) (by rfl) (by rfl) (x_fieldAddr fo54_2 (by rfl)) ?_
             refine RL_pure (by exact wn0 rfl) (by rfl) (by rfl) (x_load (j := 2) (v := .slice A1 a0.Low.length cp2) sc23 (by rfl) (H.cells (i := 0) (by rfl)) (by rfl)) ?_
             refine RL_pure (by exact wn0 rfl) (by rfl) (by rfl) (x_move (v := .int .i64 x108) (by rfl)) ?_
             refine RL_pure (by exact wn0 rfl) (by rfl) (by rfl) (x_fieldAddr fo54_0 (by rfl)) ?_
             refine RL_pure (by exact wn0 rfl) (by rfl) (by rfl) (x_load (j := 0) (v := .int .i64 a0.W) sc3 (by rfl) (H.cells (i := 0) (by rfl)) (by rfl)) ?_
             obtain ⟨x112, ex112, qx112, ux112, hm⟩ := ck_some hm
             refine RL_pure (by exact wn0 rfl) (by rfl) (by rfl) (x_mul (by rfl) (by rfl) ux112) ?_
             refine RL_pure (by exact wn0 rfl) (by rfl) (by rfl) (x_move (v := .int .i64 x105) (by rfl)) ?_
             obtain ⟨x113, ex113, qx113, ux113, hm⟩ := ck_some hm
             refine RL_pure (by exact wn0 rfl) (by rfl) (by rfl) (x_add (by rfl) (by rfl) ux113) ?_
             obtain ⟨el114, h115, h116, he117, hm⟩ := idx_some hm
             obtain ⟨g119, o120, hA118⟩ := (H.rd (i := 0) (by rfl)).addr he117
             refine RL_pure (by exact wn0 rfl) (by rfl) (by rfl) (x_indexAddr sl23 sz3 (by rfl) (by rfl) hA118 h115 h116) ?_
             refine RL_pure (by exact wn0 rfl) (by rfl) (by rfl) (x_load (j := 0) (v := .int .i64 el114) sc3 (by rfl) (Rd.flatAt (n := 1) (H.rd (i := 0) (by rfl)) hA118 he117) (by rfl)) ?_
             refine RL_pure (by exact wn0 rfl) (by rfl) (by rfl) (x_min2 (by rfl) (by rfl)) ?_
             refine RL_pure (by exact wn0 rfl) (by rfl) (by rfl) (x_assign (v := .int .i64 (mn (mn el24 el41) el114)) (by rfl)) ?_
             refine RL_nil ?_
             refine W_region ?_
             refine RL_pure (by exact wn0 rfl) (by rfl) (by rfl) (x_move (v := .int .i64 3) (by rfl)) ?_
             refine RL_pure (by exact wn0 rfl) (by rfl) (by rfl) (x_add (c := 4) (by rfl) (by rfl) (by decide)) ?_
             refine RL_pure (by exact wn0 rfl) (by rfl) (by rfl) (x_assign (v := .int .i64 4) (by rfl)) ?_
             refine RL_nil ?_
             refine WU_succ ?_
             refine W_seq ?_
             refine W_seq ?_
             refine W_region ?_
             refine RL_pure (by exact wn0 rfl) (by rfl) (by rfl) (x_move (v := .int .i64 4) (by rfl)) ?_
             refine RL_pure (by exact wn0 rfl) (by rfl) (by rfl) (x_lss (by rfl) (by rfl)) ?_
             refine RL_nil ?_
             refine W_cond (t := false) (by first | rfl | decide) (fun hb => by cases hb) (fun _ => ?_)
             refine W_exit ?_
             refine W_region ?_
             refine RL_pure (by exact wn0 rfl) (by rfl) (by rfl) (x_fieldAddr fo54_2 (by rfl)) ?_
             refine RL_pure (by exact wn0 rfl) (by rfl) (by rfl) (x_load (j := 2) (v := .slice A_row72_2 l_row72_2.length c_row72_2) sc23 (by rfl) (H.cells (i := 2) (by rfl)) (by rfl)) ?_
             refine RL_pure (by exact wn0 rfl) (by rfl) (by rfl) (x_move (v := .int .i64 (mn (mn el24 el41) el114)) (by rfl)) ?_
             refine RL_cons (O_buildSlice (vs := [(0, .int .i64 (mn (mn el24 el41) el114))]) (cs := [.int .i64 (mn (mn el24 el41) el114)]) (by exact wn0 rfl) (by rfl) sl23 sz3 ze3 (by rfl) (by rfl) (by rfl) (by kernel_rfl) H (fun w122 b121 (H : Sep ok w w122 [.blk b5 54 [.int .i64 a0.W, .int .i64 a0.H, .slice A1 a0.Low.length cp2], .blk b7 54 [.int .i64 0, .int .i64 0, .slice none 0 0], .blk b13 54 [.int .i64 x10, .int .i64 x12, .slice A_row72_2 l_row72_2.length c_row72_2], .row (.slice A_row72_2 l_row72_2.length c_row72_2) 3 kInt.sz l_row72_2.length cs_row72_2, .blk b121 3 [.int .i64 (mn (mn el24 el41) el114)]] [RE.rd kInt A1 cp2 a0.Low, RE.chunks kInt cs_row72_2 l_row72_2]) => ?_))
             obtain ⟨l127, hl128, hb129, hm⟩ := apd_some hm
             refine RL_cons (O_append (D := kInt) (i := 3) (j := 1) (o := 0) (y := (mn (mn el24 el41) el114)) (by exact wn0 rfl) (by rfl) (by rfl) (by rfl) H (by rfl) (by rfl) (H.cells (i := 4) (by rfl)) rfl hl128 sl23 sz3 by3 ze3 (by rfl) (by rfl) hb129 (by rfl) (fun w123 A124 cp125 cs126 (H : Sep ok w w123 [.blk b5 54 [.int .i64 a0.W, .int .i64 a0.H, .slice A1 a0.Low.length cp2], .blk b7 54 [.int .i64 0, .int .i64 0, .slice none 0 0], .blk b13 54 [.int .i64 x10, .int .i64 x12, .slice A_row72_2 l_row72_2.length c_row72_2], .row (.slice A124 l127.length cp125) 3 kInt.sz l127.length cs126, .blk b121 3 [.int .i64 (mn (mn el24 el41) el114)]] [RE.rd kInt A1 cp2 a0.Low, RE.chunks kInt cs126 l127]) => ?_))
             refine RL_pure (by exact wn0 rfl) (by rfl) (by rfl) (x_fieldAddr fo54_2 (by rfl)) ?_
             refine RL_cons (O_store (i := 2) (off := 2) (by exact wn0 rfl) (by rfl) (by rfl) H (by rfl) (vs := [.slice A124 l127.length cp125]) (by rfl) sz23 (by rfl) (by rfl) (by rfl) (fun w130 (H : Sep ok w w130 [.blk b5 54 [.int .i64 a0.W, .int .i64 a0.H, .slice A1 a0.Low.length cp2], .blk b7 54 [.int .i64 0, .int .i64 0, .slice none 0 0], .blk b13 54 [.int .i64 x10, .int .i64 x12, .slice A124 l127.length cp125], .row (.slice A124 l127.length cp125) 3 kInt.sz l127.length cs126, .blk b121 3 [.int .i64 (mn (mn el24 el41) el114)]] [RE.rd kInt A1 cp2 a0.Low, RE.chunks kInt cs126 l127]) => ?_))
             refine RL_nil ?_
             refine W_region ?_
             refine RL_pure (by exact wn0 rfl) (by rfl) (by rfl) (x_move (v := .int .i64 y5_2) (by rfl)) ?_
             obtain ⟨x131, ex131, qx131, ux131, hm⟩ := ck_some hm
             refine RL_pure (by exact wn0 rfl) (by rfl) (by rfl) (x_add (by rfl) (by rfl) ux131) ?_
             refine RL_pure (by exact wn0 rfl) (by rfl) (by rfl) (x_assign (v := .int .i64 x131) (by rfl)) ?_
             refine RL_nil ?_
             subst hrec2
             exact ⟨k2, Nat.lt_succ_self k2, l127, x131, A124, cp125, cs126, hm, ⟨rfl, rfl, rfl, rfl, rfl, trivial⟩, (H).takeL 4⟩
            ·have hm := cond_f hb hm
             refine W_skip ?_
             refine W_region ?_
             refine RL_pure (by exact wn0 rfl) (by rfl) (by rfl) (x_move (v := .int .i64 3) (by rfl)) ?_
             refine RL_pure (by exact wn0 rfl) (by rfl) (by rfl) (x_add (c := 4) (by rfl) (by rfl) (by decide)) ?_
             refine RL_pure (by exact wn0 rfl) (by rfl) (by rfl) (x_assign (v := .int .i64 4) (by rfl)) ?_
             refine RL_nil ?_
             refine WU_succ ?_
             refine W_seq ?_
             refine W_seq ?_
             refine W_region ?_
             refine RL_pure (by exact wn0 rfl) (by rfl) (by rfl) (x_move (v := .int .i64 4) (by rfl)) ?_
             refine RL_pure (by exact wn0 rfl) (by rfl) (by rfl) (x_lss (by rfl) (by rfl)) ?_
             refine RL_nil ?_
             refine W_cond (t := false) (by first | rfl | decide) (fun hb => by cases hb) (fun _ => ?_)
             refine W_exit ?_
             refine W_region ?_
             refine RL_pure (by exact wn0 rfl) (by rfl) (by rfl) (x_fieldAddr fo54_2 (by rfl)) ?_
             refine RL_pure (by exact wn0 rfl) (by rfl) (by rfl) (x_load (j := 2) (v := .slice A_row72_2 l_row72_2.length c_row72_2) sc23 (by rfl) (H.cells (i := 2) (by rfl)) (by rfl)) ?_
             refine RL_pure (by exact wn0 rfl) (by rfl) (by rfl) (x_move (v := .int .i64 (mn el24 el41)) (by rfl)) ?_
             refine RL_cons (O_buildSlice (vs := [(0, .int .i64 (mn el24 el41))]) (cs := [.int .i64 (mn el24 el41)]) (by exact wn0 rfl) (by rfl) sl23 sz3 ze3 (by rfl) (by rfl) (by rfl) (by kernel_rfl) H (fun w133 b132 (H : Sep ok w w133 [.blk b5 54 [.int .i64 a0.W, .int .i64 a0.H, .slice A1 a0.Low.length cp2], .blk b7 54 [.int .i64 0, .int .i64 0, .slice none 0 0], .blk b13 54 [.int .i64 x10, .int .i64 x12, .slice A_row72_2 l_row72_2.length c_row72_2], .row (.slice A_row72_2 l_row72_2.length c_row72_2) 3 kInt.sz l_row72_2.length cs_row72_2, .blk b132 3 [.int .i64 (mn el24 el41)]] [RE.rd kInt A1 cp2 a0.Low, RE.chunks kInt cs_row72_2 l_row72_2]) => ?_))
             obtain ⟨l138, hl139, hb140, hm⟩ := apd_some hm
             refine RL_cons (O_append (D := kInt) (i := 3) (j := 1) (o := 0) (y := (mn el24 el41)) (by exact wn0 rfl) (by rfl) (by rfl) (by rfl) H (by rfl) (by rfl) (H.cells (i := 4) (by rfl)) rfl hl139 sl23 sz3 by3 ze3 (by rfl) (by rfl) hb140 (by rfl) (fun w134 A135 cp136 cs137 (H : Sep ok w w134 [.blk b5 54 [.int .i64 a0.W, .int .i64 a0.H, .slice A1 a0.Low.length cp2], .blk b7 54 [.int .i64 0, .int .i64 0, .slice none 0 0], .blk b13 54 [.int .i64 x10, .int .i64 x12, .slice A_row72_2 l_row72_2.length c_row72_2], .row (.slice A135 l138.length cp136) 3 kInt.sz l138.length cs137, .blk b132 3 [.int .i64 (mn el24 el41)]] [RE.rd kInt A1 cp2 a0.Low, RE.chunks kInt cs137 l138]) => ?_))
             refine RL_pure (by exact wn0 rfl) (by rfl) (by rfl) (x_fieldAddr fo54_2 (by rfl)) ?_
             refine RL_cons (O_store (i := 2) (off := 2) (by exact wn0 rfl) (by rfl) (by rfl) H (by rfl) (vs := [.slice A135 l138.length cp136]) (by rfl) sz23 (by rfl) (by rfl) (by rfl) (fun w141 (H : Sep ok w w141 [.blk b5 54 [.int .i64 a0.W, .int .i64 a0.H, .slice A1 a0.Low.length cp2], .blk b7 54 [.int .i64 0, .int .i64 0, .slice none 0 0], .blk b13 54 [.int .i64 x10, .int .i64 x12, .slice A135 l138.length cp136], .row (.slice A135 l138.length cp136) 3 kInt.sz l138.length cs137, .blk b132 3 [.int .i64 (mn el24 el41)]] [RE.rd kInt A1 cp2 a0.Low, RE.chunks kInt cs137 l138]) => ?_))
             refine RL_nil ?_
             refine W_region ?_
             refine RL_pure (by exact wn0 rfl) (by rfl) (by rfl) (x_move (v := .int .i64 y5_2) (by rfl)) ?_
             obtain ⟨x142, ex142, qx142, ux142, hm⟩ := ck_some hm
             refine RL_pure (by exact wn0 rfl) (by rfl) (by rfl) (x_add (by rfl) (by rfl) ux142) ?_
             refine RL_pure (by exact wn0 rfl) (by rfl) (by rfl) (x_assign (v := .int .i64 x142) (by rfl)) ?_
             refine RL_nil ?_
             subst hrec2
             exact ⟨k2, Nat.lt_succ_self k2, l138, x142, A135, cp136, cs137, hm, ⟨rfl, rfl, rfl, rfl, rfl, trivial⟩, (H).takeL 4⟩
        ·have hm := cond_f hb hm
         refine W_skip ?_
         refine W_region ?_
         refine RL_pure (by exact wn0 rfl) (by rfl) (by rfl) (x_move (v := .int .i64 1) (by rfl)) ?_
         refine RL_pure (by exact wn0 rfl) (by rfl) (by rfl) (x_add (c := 2) (by rfl) (by rfl) (by decide)) ?_
         refine RL_pure (by exact wn0 rfl) (by rfl) (by rfl) (x_assign (v := .int .i64 2) (by rfl)) ?_
         refine RL_nil ?_
         refine WU_succ ?_
         refine W_seq ?_
         refine W_seq ?_
         refine W_region ?_
         refine RL_pure (by exact wn0 rfl) (by rfl) (by rfl) (x_move (v := .int .i64 2) (by rfl)) ?_
         refine RL_pure (by exact wn0 rfl) (by rfl) (by rfl) (x_lss (by rfl) (by rfl)) ?_
         refine RL_nil ?_
         refine W_cond (t := true) (by first | rfl | decide) (fun _ => ?_) (fun hb => by cases hb)
         refine W_skip ?_
         refine W_seq ?_
         refine W_block ?_
         refine W_seq ?_
         refine W_region ?_
         refine RL_pure (by exact wn0 rfl) (by rfl) (by rfl) (x_move (v := .int .i64 y5_2) (by rfl)) ?_
         obtain ⟨x143, ex143, qx143, ux143, hm⟩ := ck_some hm
         refine RL_pure (by exact wn0 rfl) (by rfl) (by rfl) (x_mul (by rfl) (by rfl) ux143) ?_
         refine RL_pure (by exact wn0 rfl) (by rfl) (by rfl) (x_move (v := .int .i64 2) (by rfl)) ?_
         refine RL_pure (by exact wn0 rfl) (by rfl) (by rfl) (x_rem (by rfl) (by rfl) (by decide)) ?_
         obtain ⟨x144, ex144, qx144, ux144, hm⟩ := ck_some hm
         refine RL_pure (by exact wn0 rfl) (by rfl) (by rfl) (x_add (by rfl) (by rfl) ux144) ?_
         refine RL_pure (by exact wn0 rfl) (by rfl) (by rfl) (x_move (v := .int .i64 y4_1) (by rfl)) ?_
         obtain ⟨x145, ex145, qx145, ux145, hm⟩ := ck_some hm
         refine RL_pure (by exact wn0 rfl) (by rfl) (by rfl) (x_mul (by rfl) (by rfl) ux145) ?_
         refine RL_pure (by exact wn0 rfl) (by rfl) (by rfl) (x_move (v := .int .i64 2) (by rfl)) ?_
         obtain ⟨x146, ex146, qx146, ux146, hm⟩ := ck_some hm
         refine RL_pure (by exact wn0 rfl) (by rfl) (by rfl) (x_quo (by rfl) (by rfl) (by decide) ux146) ?_
         obtain ⟨x147, ex147, qx147, ux147, hm⟩ := ck_some hm
         refine RL_pure (by exact wn0 rfl) (by rfl) (by rfl) (x_add (by rfl) (by rfl) ux147) ?_
         refine RL_pure (by exact wn0 rfl) (by rfl) (by rfl) (x_assign (v := .int .i64 x144) (by rfl)) ?_
         refine RL_pure (by exact wn0 rfl) (by rfl) (by rfl) (x_assign (v := .int .i64 x147) (by rfl)) ?_
         refine RL_nil ?_
         refine W_seq ?_
         refine W_region ?_
         refine RL_pure (by exact wn0 rfl) (by rfl) (by rfl) (x_move (v := .int .i64 x144) (by rfl)) ?_
         refine RL_pure (by exact wn0 rfl) (by rfl) (by rfl) (x_fieldAddr fo54_0 (by rfl)) ?_
         refine RL_pure (by exact wn0 rfl) (by rfl) (by rfl) (x_load (j := 0) (v := .int .i64 a0.W) sc3 (by rfl) (H.cells (i := 0) (by rfl)) (by rfl)) ?_
         refine RL_pure (by exact wn0 rfl) (by rfl) (by rfl) (x_lss (by rfl) (by rfl)) ?_
         refine RL_pure (by exact wn0 rfl) (by rfl) (by rfl) (x_move (v := .bool (decide (x144 < a0.W))) (by rfl)) ?_
         obtain ⟨b148, hmS, hm⟩ := bind_some hm
         refine RL_cut 5 (fun r' w' => Agr [(66, .bool b148), (1, .pointer (some ⟨b5, 0, none⟩)), (2, .pointer (some ⟨b7, 0, none⟩)), (3, .pointer (some ⟨b13, 0, none⟩)), (4, .int .i64 y4_1), (5, .int .i64 y5_2), (6, .int .i64 el24), (7, .int .i64 2), (8, .int .i64 x144), (9, .int .i64 x147)] r' ∧ Sep ok w w' [.blk b5 54 [.int .i64 a0.W, .int .i64 a0.H, .slice A1 a0.Low.length cp2], .blk b7 54 [.int .i64 0, .int .i64 0, .slice none 0 0], .blk b13 54 [.int .i64 x10, .int .i64 x12, .slice A_row72_2 l_row72_2.length c_row72_2], .row (.slice A_row72_2 l_row72_2.length c_row72_2) 3 kInt.sz l_row72_2.length cs_row72_2] [RE.rd kInt A1 cp2 a0.Low, RE.chunks kInt cs_row72_2 l_row72_2]) ?_ ?_
         ·cases hbS : (decide (x144 < a0.W))
          ·have hm := cond_f hbS hmS
           refine RL_cons (OpR_off (by exact wn2 rfl rfl rfl rfl) (by rfl) (by rfl) ?_)
           refine RL_cons (OpR_off (by exact wn2 rfl rfl rfl rfl) (by rfl) (by rfl) ?_)
           refine RL_cons (OpR_off (by exact wn2 rfl rfl rfl rfl) (by rfl) (by rfl) ?_)
           refine RL_cons (OpR_off (by exact wn2 rfl rfl rfl rfl) (by rfl) (by rfl) ?_)
           refine RL_pure (by exact wn0 rfl) (by rfl) (by rfl) (x_pick_f (v := .bool false) (by rfl) (by rfl)) ?_
           refine RL_nil ?_
           exact ⟨⟨congrArg Value.bool (Option.some.inj hm), rfl, rfl, rfl, rfl, rfl, rfl, rfl, rfl, rfl, trivial⟩, H⟩
          ·have hm := cond_t hbS hmS
           refine RL_pure (by exact wn1 rfl rfl rfl rfl) (by rfl) (by rfl) (x_move (v := .int .i64 x147) (by rfl)) ?_
           refine RL_pure (by exact wn1 rfl rfl rfl rfl) (by rfl) (by rfl) (x_fieldAddr fo54_1 (by rfl)) ?_
           refine RL_pure (by exact wn1 rfl rfl rfl rfl) (by rfl) (by rfl) (x_load (j := 1) (v := .int .i64 a0.H) sc3 (by rfl) (H.cells (i := 0) (by rfl)) (by rfl)) ?_
           refine RL_pure (by exact wn1 rfl rfl rfl rfl) (by rfl) (by rfl) (x_lss (by rfl) (by rfl)) ?_
           refine RL_pure (by exact wn0 rfl) (by rfl) (by rfl) (x_pick_t (v := .bool (decide (x147 < a0.H))) (by rfl) (by rfl)) ?_
           refine RL_nil ?_
           exact ⟨⟨congrArg Value.bool (Option.some.inj hm), rfl, rfl, rfl, rfl, rfl, rfl, rfl, rfl, rfl, trivial⟩, H⟩
         ·rintro r' w' ⟨hA, H⟩
          obtain ⟨r149, rfl⟩ := regen _ hA; clear hA
          obtain ⟨w150, rfl⟩ : ∃ W : World, W = w' := ⟨_, rfl⟩
          show RL _ _ _ _ _ _ _
          refine RL_nil ?_
          refine W_cond (by rfl) (fun hb => ?_) (fun hb => ?_)
          ·have hm := cond_t hb hm
           refine W_region ?_
           refine RL_pure (by exact wn0 rfl) (by rfl) (by rfl) (x_move (v := .int .i64 el24) (by rfl)) ?_
           refine RL_pure (by exact wn0 rfl) (by rfl) (by rfl) (x_fieldAddr fo54_2 (by rfl)) ?_
           refine RL_pure (by exact wn0 rfl) (by rfl) (by rfl) (x_load (j := 2) (v := .slice A1 a0.Low.length cp2) sc23 (by rfl) (H.cells (i := 0) (by rfl)) (by rfl)) ?_
           refine RL_pure (by exact wn0 rfl) (by rfl) (by rfl) (x_move (v := .int .i64 x147) (by rfl)) ?_
           refine RL_pure (by exact wn0 rfl) (by rfl) (by rfl) (x_fieldAddr fo54_0 (by rfl)) ?_
           refine RL_pure (by exact wn0 rfl) (by rfl) (by rfl) (x_load (j := 0) (v := .int .i64 a0.W) sc3 (by rfl) (H.cells (i := 0) (by rfl)) (by rfl)) ?_
           obtain ⟨x151, ex151, qx151, ux151, hm⟩ := ck_some hm
           refine RL_pure (by exact wn0 rfl) (by rfl) (by rfl) (x_mul (by rfl) (by rfl) ux151) ?_
           refine RL_pure (by exact wn0 rfl) (by rfl) (by rfl) (x_move (v := .int .i64 x144) (by rfl)) ?_
           obtain ⟨x152, ex152, qx152, ux152, hm⟩ := ck_some hm
           refine RL_pure (by exact wn0 rfl) (by rfl) (by rfl) (x_add (by rfl) (by rfl) ux152) ?_
           obtain ⟨el153, h154, h155, he156, hm⟩ := idx_some hm
           obtain ⟨g158, o159, hA157⟩ := (H.rd (i := 0) (by rfl)).addr he156
           refine RL_pure (by exact wn0 rfl) (by rfl) (by rfl) (x_indexAddr sl23 sz3 (by rfl) (by rfl) hA157 h154 h155) ?_
           refine RL_pure (by exact wn0 rfl) (by rfl) (by rfl) (x_load (j := 0) (v := .int .i64 el153) sc3 (by rfl) (Rd.flatAt (n := 1) (H.rd (i := 0) (by rfl)) hA157 he156) (by rfl)) ?_
           refine RL_pure (by exact wn0 rfl) (by rfl) (by rfl) (x_min2 (by rfl) (by rfl)) ?_
           refine RL_pure (by exact wn0 rfl) (by rfl) (by rfl) (x_assign (v := .int .i64 (mn el24 el153)) (by rfl)) ?_
           refine RL_nil ?_
           refine W_region ?_
           refine RL_pure (by exact wn0 rfl) (by rfl) (by rfl) (x_move (v := .int .i64 2) (by rfl)) ?_
           refine RL_pure (by exact wn0 rfl) (by rfl) (by rfl) (x_add (c := 3) (by rfl) (by rfl) (by decide)) ?_
           refine RL_pure (by exact wn0 rfl) (by rfl) (by rfl) (x_assign (v := .int .i64 3) (by rfl)) ?_
           refine RL_nil ?_
           refine WU_succ ?_
           refine W_seq ?_
           refine W_seq ?_
           refine W_region ?_
           refine RL_pure (by exact wn0 rfl) (by rfl) (by rfl) (x_move (v := .int .i64 3) (by rfl)) ?_
           refine RL_pure (by exact wn0 rfl) (by rfl) (by rfl) (x_lss (by rfl) (by rfl)) ?_
           refine RL_nil ?_
           refine W_cond (t := true) (by first | rfl | decide) (fun _ => ?_) (fun hb => by cases hb)
           refine W_skip ?_
           refine W_seq ?_
           refine W_block ?_
           refine W_seq ?_
           refine W_region ?_
           refine RL_pure (by exact wn0 rfl) (by rfl) (by rfl) (x_move (v := .int .i64 y5_2) (by rfl)) ?_
           obtain ⟨x160, ex160, qx160, ux160, hm⟩ := ck_some hm
           refine RL_pure (by exact wn0 rfl) (by rfl) (by rfl) (x_mul (by rfl) (by rfl) ux160) ?_
           refine RL_pure (by exact wn0 rfl) (by rfl) (by rfl) (x_move (v := .int .i64 3) (by rfl)) ?_
           refine RL_pure (by exact wn0 rfl) (by rfl) (by rfl) (x_rem (by rfl) (by rfl) (by decide)) ?_
           obtain ⟨x161, ex161, qx161, ux161, hm⟩ := ck_some hm
           refine RL_pure (by exact wn0 rfl) (by rfl) (by rfl) (x_add (by rfl) (by rfl) ux161) ?_
           refine RL_pure (by exact wn0 rfl) (by rfl) (by rfl) (x_move (v := .int .i64 y4_1) (by rfl)) ?_
           obtain ⟨x162, ex162, qx162, ux162, hm⟩ := ck_some hm
           refine RL_pure (by exact wn0 rfl) (by rfl) (by rfl) (x_mul (by rfl) (by rfl) ux162) ?_
           refine RL_pure (by exact wn0 rfl) (by rfl) (by rfl) (x_move (v := .int .i64 3) (by rfl)) ?_
           obtain ⟨x163, ex163, qx163, ux163, hm⟩ := ck_some hm
           refine RL_pure (by exact wn0 rfl) (by rfl) (by rfl) (x_quo (by rfl) (by rfl) (by decide) ux163) ?_
           obtain ⟨x164, ex164, qx164, ux164, hm⟩ := ck_some hm
           refine RL_pure (by exact wn0 rfl) (by rfl) (by rfl) (x_add (by rfl) (by rfl) ux164) ?_
           refine RL_pure (by exact wn0 rfl) (by rfl) (by rfl) (x_assign (v := .int .i64 x161) (by rfl)) ?_
           refine RL_pure (by exact wn0 rfl) (by rfl) (by rfl) (x_assign (v := .int .i64 x164) (by rfl)) ?_
           refine RL_nil ?_
           refine W_seq ?_
           refine W_region ?_
           refine RL_pure (by exact wn0 rfl) (by rfl) (by rfl) (x_move (v := .int .i64 x161) (by rfl)) ?_
           refine RL_pure (by exact wn0 rfl) (by rfl) (by rfl) (x_fieldAddr fo54_0 (by rfl)) ?_
           refine RL_pure (by exact wn0 rfl) (by rfl) (by rfl) (x_load (j := 0) (v := .int .i64 a0.W) sc3 (by rfl) (H.cells (i := 0) (by rfl)) (by rfl)) ?_
           refine RL_pure (by exact wn0 rfl) (by rfl) (by rfl) (x_lss (by rfl) (by rfl)) ?_
           refine RL_pure (by exact wn0 rfl) (by rfl) (by rfl) (x_move (v := .bool (decide (x161 < a0.W))) (by rfl)) ?_
           obtain ⟨b165, hmS, hm⟩ := bind_some hm
           refine RL_cut 5 (fun r' w' => Agr [(66, .bool b165), (1, .pointer (some ⟨b5, 0, none⟩)), (2, .pointer (some ⟨b7, 0, none⟩)), (3, .pointer (some ⟨b13, 0, none⟩)), (4, .int .i64 y4_1), (5, .int .i64 y5_2), (6, .int .i64 (mn el24 el153)), (7, .int .i64 3), (8, .int .i64 x161), (9, .int .i64 x164)] r' ∧ Sep ok w w' [.blk b5 54 [.int .i64 a0.W, .int .i64 a0.H, .slice A1 a0.Low.length cp2], .blk b7 54 [.int .i64 0, .int .i64 0, .slice none 0 0], .blk b13 54 [.int .i64 x10, .int .i64 x12, .slice A_row72_2 l_row72_2.length c_row72_2], .row (.slice A_row72_2 l_row72_2.length c_row72_2) 3 kInt.sz l_row72_2.length cs_row72_2] [RE.rd kInt A1 cp2 a0.Low, RE.chunks kInt cs_row72_2 l_row72_2]) ?_ ?_
           ·cases hbS : (decide (x161 < a0.W))
            ·have hm := cond_f hbS hmS
             refine RL_cons (OpR_off (by exact wn2 rfl rfl rfl rfl) (by rfl) (by rfl) ?_)
             refine RL_cons (OpR_off (by exact wn2 rfl rfl rfl rfl) (by rfl) (by rfl) ?_)
             refine RL_cons (OpR_off (by exact wn2 rfl rfl rfl rfl) (by rfl) (by rfl) ?_)
             refine RL_cons (OpR_off (by exact wn2 rfl rfl rfl rfl) (by rfl) (by rfl) ?_)
             refine RL_pure (by exact wn0 rfl) (by rfl) (by rfl) (x_pick_f (v := .bool false) (by rfl) (by rfl)) ?_
             refine RL_nil ?_
             exact ⟨⟨congrArg Value.bool (Option.some.inj hm), rfl, rfl, rfl, rfl, rfl, rfl, rfl, rfl, rfl, trivial⟩, H⟩
            ·have hm := cond_t hbS hmS
             refine RL_pure (by exact wn1 rfl rfl rfl rfl) (by rfl) (by rfl) (x_move (v := .int .i64 x164) (by rfl)) ?_
             refine RL_pure (by exact wn1 rfl rfl rfl rfl) (by rfl) (by rfl) (x_fieldAddr fo54_1 (by rfl)) ?_
             refine RL_pure (by exact wn1 rfl rfl rfl rfl) (by rfl) (by rfl) (x_load (j := 1) (v := .int .i64 a0.H) sc3 (by rfl) (H.cells (i := 0) (by rfl)) (by rfl)) ?_
             refine RL_pure (by exact wn1 rfl rfl rfl rfl) (by rfl) (by rfl) (x_lss (by rfl) (by rfl)) ?_
             refine RL_pure (by exact wn0 rfl) (by rfl) (by rfl) (x_pick_t (v := .bool (decide (x164 < a0.H))) (by rfl) (by rfl)) ?_
             refine RL_nil ?_
             exact ⟨⟨congrArg Value.bool (Option.some.inj hm), rfl, rfl, rfl, rfl, rfl, rfl, rfl, rfl, rfl, trivial⟩, H⟩
           ·rintro r' w' ⟨hA, H⟩
            obtain ⟨r166, rfl⟩ := regen _ hA; clear hA
            obtain ⟨w167, rfl⟩ : ∃ W : World, W = w' := ⟨_, rfl⟩
            show RL _ _ _ _ _ _ _
            refine RL_nil ?_
            refine W_cond (by rfl) (fun hb => ?_) (fun hb => ?_)
            ·have hm := cond_t hb hm
             refine W_region ?_
             refine RL_pure (by exact wn0 rfl) (by rfl) (by rfl) (x_move (v := .int .i64 (mn el24 el153)) (by rfl)) ?_
             refine RL_pure (by exact wn0 rfl) (by rfl) (by rfl) (x_fieldAddr fo54_2 (by rfl)) ?_
             refine RL_pure (by exact wn0 rfl) (by rfl) (by rfl) (x_load (j := 2) (v := .slice A1 a0.Low.length cp2) sc23 (by rfl) (H.cells (i := 0) (by rfl)) (by rfl)) ?_
             refine RL_pure (by exact wn0 rfl) (by rfl) (by rfl) (x_move (v := .int .i64 x164) (by rfl)) ?_
             refine RL_pure (by exact wn0 rfl) (by rfl) (by rfl) (x_fieldAddr fo54_0 (by rfl)) ?_
             refine RL_pure (by exact wn0 rfl) (by rfl) (by rfl) (x_load (j := 0) (v := .int .i64 a0.W) sc3 (by rfl) (H.cells (i := 0) (by rfl)) (by rfl)) ?_
             obtain ⟨x168, ex168, qx168, ux168, hm⟩ := ck_some hm
             refine RL_pure (by exact wn0 rfl) (by rfl) (by rfl) (x_mul (by rfl) (by rfl) ux168) ?_
             refine RL_pure (by exact wn0 rfl) (by rfl) (by rfl) (x_move (v := .int .i64 x161) (by rfl)) ?_
             obtain ⟨x169, ex169, qx169, ux169, hm⟩ := ck_some hm
             refine RL_pure (by exact wn0 rfl) (by rfl) (by rfl) (x_add (by rfl) (by rfl) ux169) ?_
             obtain ⟨el170, h171, h172, he173, hm⟩ := idx_some hm
             obtain ⟨g175, o176, hA174⟩ := (H.rd (i := 0) (by rfl)).addr he173
             refine RL_pure (by exact wn0 rfl) (by rfl) (by rfl) (x_indexAddr sl23 sz3 (by rfl) (by rfl) hA174 h171 h172) ?_
             refine RL_pure (by exact wn0 rfl) (by rfl) (by rfl) (x_load (j := 0) (v := .int .i64 el170) sc3 (by rfl) (Rd.flatAt (n := 1) (H.rd (i := 0) (by rfl)) hA174 he173) (by rfl)) ?_
             refine RL_pure (by exact wn0 rfl) (by rfl) (by rfl) (x_min2 (by rfl) (by rfl)) ?_
             refine RL_pure (by exact wn0 rfl) (by rfl) (by rfl) (x_assign (v := .int .i64 (mn (mn el24 el153) el170)) (by rfl)) ?_
             refine RL_nil ?_
             refine W_region ?_
             refine RL_pure (by exact wn0 rfl) (by rfl) (by rfl) (x_move (v := .int .i64 3) (by rfl)) ?_
             refine RL_pure (by exact wn0 rfl) (by rfl) (by rfl) (x_add (c := 4) (by rfl) (by rfl) (by decide)) ?_
             refine RL_pure (by exact wn0 rfl) (by rfl) (by rfl) (x_assign (v := .int .i64 4) (by rfl)) ?_
             refine RL_nil ?_
             refine WU_succ ?_
             refine W_seq ?_
             refine W_seq ?_
             refine W_region ?_
             refine RL_pure (by exact wn0 rfl) (by rfl) (by rfl) (x_move (v := .int .i64 4) (by rfl)) ?_
             refine RL_pure (by exact wn0 rfl) (by rfl) (by rfl) (x_lss (by rfl) (by rfl)) ?_
             refine RL_nil ?_
             refine W_cond (t := false) (by first | rfl | decide) (fun hb => by cases hb) (fun _ => ?_)
             refine W_exit ?_
             refine W_region ?_
             refine RL_pure (by exact wn0 rfl) (by rfl) (by rfl) (x_fieldAddr fo54_2 (by rfl)) ?_
             refine RL_pure (by exact wn0 rfl) (by rfl) (by rfl) (x_load (j := 2) (v := .slice A_row72_2 l_row72_2.length c_row72_2) sc23 (by rfl) (H.cells (i := 2) (by rfl)) (by rfl)) ?_
             refine RL_pure (by exact wn0 rfl) (by rfl) (by rfl) (x_move (v := .int .i64 (mn (mn el24 el153) el170)) (by rfl)) ?_
             refine RL_cons (O_buildSlice (vs := [(0, .int .i64 (mn (mn el24 el153) el170))]) (cs := [.int .i64 (mn (mn el24 el153) el170)]) (by exact wn0 rfl) (by rfl) sl23 sz3 ze3 (by rfl) (by rfl) (by rfl) (by kernel_rfl) H (fun w178 b177 (H : Sep ok w w178 [.blk b5 54 [.int .i64 a0.W, .int .i64 a0.H, .slice A1 a0.Low.length cp2], .blk b7 54 [.int .i64 0, .int .i64 0, .slice none 0 0], .blk b13 54 [.int .i64 x10, .int .i64 x12, .slice A_row72_2 l_row72_2.length c_row72_2], .row (.slice A_row72_2 l_row72_2.length c_row72_2) 3 kInt.sz l_row72_2.length cs_row72_2, .blk b177 3 [.int .i64 (mn (mn el24 el153) el170)]] [RE.rd kInt A1 cp2 a0.Low, RE.chunks kInt cs_row72_2 l_row72_2]) => ?_))
             obtain ⟨l183, hl184, hb185, hm⟩ := apd_some hm
             refine RL_cons (O_append (D := kInt) (i := 3) (j := 1) (o := 0) (y := (mn (mn el24 el153) el170)) (by exact wn0 rfl) (by rfl) (by rfl) (by rfl) H (by rfl) (by rfl) (H.cells (i := 4) (by rfl)) rfl hl184 sl23 sz3 by3 ze3 (by rfl) (by rfl) hb185 (by rfl) (fun w179 A180 cp181 cs182 (H : Sep ok w w179 [.blk b5 54 [.int .i64 a0.W, .int .i64 a0.H, .slice A1 a0.Low.length cp2], .blk b7 54 [.int .i64 0, .int .i64 0, .slice none 0 0], .blk b13 54 [.int .i64 x10, .int .i64 x12, .slice A_row72_2 l_row72_2.length c_row72_2], .row (.slice A180 l183.length cp181) 3 kInt.sz l183.length cs182, .blk b177 3 [.int .i64 (mn (mn el24 el153) el170)]] [RE.rd kInt A1 cp2 a0.Low, RE.chunks kInt cs182 l183]) => ?_))
             refine RL_pure (by exact wn0 rfl) (by rfl) (by rfl) (x_fieldAddr fo54_2 (by rfl)) ?_
             refine RL_cons (O_store (i := 2) (off := 2) (by exact wn0 rfl) (by rfl) (by rfl) H (by rfl) (vs := [.slice A180 l183.length cp181]) (by rfl) sz23 (by rfl) (by rfl) (by rfl) (fun w186 (H : Sep ok w w186 [.blk b5 54 [.int .i64 a0.W, .int .i64 a0.H, .slice A1 a0.Low.length cp2], .blk b7 54 [.int .i64 0, .int .i64 0, .slice none 0 0], .blk b13 54 [.int .i64 x10, .int .i64 x12, .slice A180 l183.length cp181], .row (.slice A180 l183.length cp181) 3 kInt.sz l183.length cs182, .blk b177 3 [.int .i64 (mn (mn el24 el153) el170)]] [RE.rd kInt A1 cp2 a0.Low, RE.chunks kInt cs182 l183]) => ?_))
             refine RL_nil ?_
             refine W_region ?_
             refine RL_pure (by exact wn0 rfl) (by rfl) (by rfl) (x_move (v := .int .i64 y5_2) (by rfl)) ?_
             obtain ⟨x187, ex187, qx187, ux187, hm⟩ := ck_some hm
             refine RL_pure (by exact wn0 rfl) (by rfl) (by rfl) (x_add (by rfl) (by rfl) ux187) ?_
             refine RL_pure (by exact wn0 rfl) (by rfl) (by rfl) (x_assign (v := .int .i64 x187) (by rfl)) ?_
             refine RL_nil ?_
             subst hrec2
             exact ⟨k2, Nat.lt_succ_self k2, l183, x187, A180, cp181, cs182, hm, ⟨rfl, rfl, rfl, rfl, rfl, trivial⟩, (H).takeL 4⟩
            ·have hm := cond_f hb hm
             refine W_skip ?_
             refine W_region ?_
             refine RL_pure (by exact wn0 rfl) (by rfl) (by rfl) (x_move (v := .int .i64 3) (by rfl)) ?_
             refine RL_pure (by exact wn0 rfl) (by rfl) (by rfl) (x_add (c := 4) (by rfl) (by rfl) (by decide)) ?_
             refine RL_pure (by exact wn0 rfl) (by rfl) (by rfl) (x_assign (v := .int .i64 4) (by rfl)) ?_
             refine RL_nil ?_
             refine WU_succ ?_
             refine W_seq ?_
             refine W_seq ?_
             refine W_region ?_
             refine RL_pure (by exact wn0 rfl) (by rfl) (by rfl) (x_move (v := .int .i64 4) (by rfl)) ?_
             refine RL_pure (by exact wn0 rfl) (by rfl) (by rfl) (x_lss (by rfl) (by rfl)) ?_
             refine RL_nil ?_
             refine W_cond (t := false) (by first | rfl | decide) (fun hb => by cases hb) (fun _ => ?_)
             refine W_exit ?_
             refine W_region ?_
             refine RL_pure (by exact wn0 rfl) (by rfl) (by rfl) (x_fieldAddr fo54_2 (by rfl)) ?_
             refine RL_pure (by exact wn0 rfl) (by rfl) (by rfl) (x_load (j := 2) (v := .slice A_row72_2 l_row72_2.length c_row72_2) sc23 (by rfl) (H.cells (i := 2) (by rfl)) (by rfl)) ?_
             refine RL_pure (by exact wn0 rfl) (by rfl) (by rfl) (x_move (v := .int .i64 (mn el24 el153)) (by rfl)) ?_
             refine RL_cons (O_buildSlice (vs := [(0, .int .i64 (mn el24 el153))]) (cs := [.int .i64 (mn el24 el153)]) (by exact wn0 rfl) (by rfl) sl23 sz3 ze3 (by rfl) (by rfl) (by rfl) (by kernel_rfl) H (fun w189 b188 (H : Sep ok w w189 [.blk b5 54 [.int .i64 a0.W, .int .i64 a0.H, .slice A1 a0.Low.length cp2], .blk b7 54 [.int .i64 0, .int .i64 0, .slice none 0 0], .blk b13 54 [.int .i64 x10, .int .i64 x12, .slice A_row72_2 l_row72_2.length c_row72_2], .row (.slice A_row72_2 l_row72_2.length c_row72_2) 3 kInt.sz l_row72_2.length cs_row72_2, .blk b188 3 [.int .i64 (mn el24 el153)]] [RE.rd kInt A1 cp2 a0.Low, RE.chunks kInt cs_row72_2 l_row72_2]) => ?_))
             obtain ⟨l194, hl195, hb196, hm⟩ := apd_some hm
             refine RL_cons (O_append (D := kInt) (i := 3) (j := 1) (o := 0) (y := (mn el24 el153)) (by exact wn0 rfl) (by rfl) (by rfl) (by rfl) H (by rfl) (by rfl) (H.cells (i := 4) (by rfl)) rfl hl195 sl23 sz3 by3 ze3 (by rfl) (by rfl) hb196 (by rfl) (fun w190 A191 cp192 cs193 (H : Sep ok w w190 [.blk b5 54 [.int .i64 a0.W, .int .i64 a0.H, .slice A1 a0.Low.length cp2], .blk b7 54 [.int .i64 0, .int .i64 0, .slice none 0 0], .blk b13 54 [.int .i64 x10, .int .i64 x12, .slice A_row72_2 l_row72_2.length c_row72_2], .row (.slice A191 l194.length cp192) 3 kInt.sz l194.length cs193, .blk b188 3 [.int .i64 (mn el24 el153)]] [RE.rd kInt A1 cp2 a0.Low, RE.chunks kInt cs193 l194]) => ?_))
             refine RL_pure (by exact wn0 rfl) (by rfl) (by rfl) (x_fieldAddr fo54_2 (by rfl)) ?_
             refine RL_cons (O_store (i := 2) (off := 2) (by exact wn0 rfl) (by rfl) (by rfl) H (by rfl) (vs := [.slice A191 l194.length cp192]) (by rfl) sz23 (by rfl) (by rfl) (by rfl) (fun w197 (H : Sep ok w w197 [.blk b5 54 [.int .i64 a0.W, .int .i64 a0.H, .slice A1 a0.Low.length cp2], .blk b7 54 [.int .i64 0, .int .i64 0, .slice none 0 0], .blk b13 54 [.int .i64 x10, .int .i64 x12, .slice A191 l194.length cp192], .row (.slice A191 l194.length cp192) 3 kInt.sz l194.length cs193, .blk b188 3 [.int .i64 (mn el24 el153)]] [RE.rd kInt A1 cp2 a0.Low, RE.chunks kInt cs193 l194]) => ?_))
             refine RL_nil ?_
             refine W_region ?_
             refine RL_pure (by exact wn0 rfl) (by rfl) (by rfl) (x_move (v := .int .i64 y5_2) (by rfl)) ?_
             obtain ⟨x198, ex198, qx198, ux198, hm⟩ := ck_some hm
             refine RL_pure (by exact wn0 rfl) (by rfl) (by rfl) (x_add (by rfl) (by rfl) ux198) ?_
             refine RL_pure (by exact wn0 rfl) (by rfl) (by rfl) (x_assign (v := .int .i64 x198) (by rfl)) ?_
             refine RL_nil ?_
             subst hrec2
             exact ⟨k2, Nat.lt_succ_self k2, l194, x198, A191, cp192, cs193, hm, ⟨rfl, rfl, rfl, rfl, rfl, trivial⟩, (H).takeL 4⟩
          ·have hm := cond_f hb hm
           refine W_skip ?_
           refine W_region ?_
           refine RL_pure (by exact wn0 rfl) (by rfl) (by rfl) (x_move (v := .int .i64 2) (by rfl)) ?_
           refine RL_pure (by exact wn0 rfl) (by rfl) (by rfl) (x_add (c := 3) (by rfl) (by rfl) (by decide)) ?_
           refine RL_pure (by exact wn0 rfl) (by rfl) (by rfl) (x_assign (v := .int .i64 3) (by rfl)) ?_
           refine RL_nil ?_
           refine WU_succ ?_
           refine W_seq ?_
           refine W_seq ?_
           refine W_region ?_
           refine RL_pure (by exact wn0 rfl) (by rfl) (by rfl) (x_move (v := .int .i64 3) (by rfl)) ?_
           refine RL_pure (by exact wn0 rfl) (by rfl) (by rfl) (x_lss (by rfl) (by rfl)) ?_
           refine RL_nil ?_
           refine W_cond (t := true) (by first | rfl | decide) (fun _ => ?_) (fun hb => by cases hb)
           refine W_skip ?_
           refine W_seq ?_
           refine W_block ?_
           refine W_seq ?_
           refine W_region ?_
           refine RL_pure (by exact wn0 rfl) (by rfl) (by rfl) (x_move (v := .int .i64 y5_2) (by rfl)) ?_
           obtain ⟨x199, ex199, qx199, ux199, hm⟩ := ck_some hm
           refine RL_pure (by exact wn0 rfl) (by rfl) (by rfl) (x_mul (by rfl) (by rfl) ux199) ?_
           refine RL_pure (by exact wn0 rfl) (by rfl) (by rfl) (x_move (v := .int .i64 3) (by rfl)) ?_
           refine RL_pure (by exact wn0 rfl) (by rfl) (by rfl) (x_rem (by rfl) (by rfl) (by decide)) ?_
           obtain ⟨x200, ex200, qx200, ux200, hm⟩ := ck_some hm
           refine RL_pure (by exact wn0 rfl) (by rfl) (by rfl) (x_add (by rfl) (by rfl) ux200) ?_
           refine RL_pure (by exact wn0 rfl) (by rfl) (by rfl) (x_move (v := .int .i64 y4_1) (by rfl)) ?_
           obtain ⟨x201, ex201, qx201, ux201, hm⟩ := ck_some hm
           refine RL_pure (by exact wn0 rfl) (by rfl) (by rfl) (x_mul (by rfl) (by rfl) ux201) ?_
           refine RL_pure (by exact wn0 rfl) (by rfl) (by rfl) (x_move (v := .int .i64 3) (by rfl)) ?_
           obtain ⟨x202, ex202, qx202, ux202, hm⟩ := ck_some hm
           refine RL_pure (by exact wn0 rfl) (by rfl) (by rfl) (x_quo (by rfl) (by rfl) (by decide) ux202) ?_
           obtain ⟨x203, ex203, qx203, ux203, hm⟩ := ck_some hm
           refine RL_pure (by exact wn0 rfl) (by rfl) (by rfl) (x_add (by rfl) (by rfl) ux203) ?_
           refine RL_pure (by exact wn0 rfl) (by rfl) (by rfl) (x_assign (v := .int .i64 x200) (by rfl)) ?_
           refine RL_pure (by exact wn0 rfl) (by rfl) (by rfl) (x_assign (v := .int .i64 x203) (by rfl)) ?_
           refine RL_nil ?_
           refine W_seq ?_
           refine W_region ?_
           refine RL_pure (by exact wn0 rfl) (by rfl) (by rfl) (x_move (v := .int .i64 x200) (by rfl)) ?_
           refine RL_pure (by exact wn0 rfl) (by rfl) (by rfl) (x_fieldAddr fo54_0 (by rfl)) ?_
           refine RL_pure (by exact wn0 rfl) (by rfl) (by rfl) (x_load (j := 0) (v := .int .i64 a0.W) sc3 (by rfl) (H.cells (i := 0) (by rfl)) (by rfl)) ?_
           refine RL_pure (by exact wn0 rfl) (by rfl) (by rfl) (x_lss (by rfl) (by rfl)) ?_
           refine RL_pure (by exact wn0 rfl) (by rfl) (by rfl) (x_move (v := .bool (decide (x200 < a0.W))) (by rfl)) ?_
           obtain ⟨b204, hmS, hm⟩ := bind_some hm
           refine RL_cut 5 (fun r' w' => Agr [(66, .bool b204), (1, .pointer (some ⟨b5, 0, none⟩)), (2, .pointer (some ⟨b7, 0, none⟩)), (3, .pointer (some ⟨b13, 0, none⟩)), (4, .int .i64 y4_1), (5, .int .i64 y5_2), (6, .int .i64 el24), (7, .int .i64 3), (8, .int .i64 x200), (9, .int .i64 x203)] r' ∧ Sep ok w w' [.blk b5 54 [.int .i64 a0.W, .int .i64 a0.H, .slice A1 a0.Low.length cp2], .blk b7 54 [.int .i64 0, .int .i64 0, .slice none 0 0], .blk b13 54 [.int .i64 x10, .int .i64 x12, .slice A_row72_2 l_row72_2.length c_row72_2], .row (.slice A_row72_2 l_row72_2.length c_row72_2) 3 kInt.sz l_row72_2.length cs_row72_2] [RE.rd kInt A1 cp2 a0.Low, RE.chunks kInt cs_row72_2 l_row72_2]) ?_ ?_
           ·cases hbS : (decide (x200 < a0.W))
            ·have hm := cond_f hbS hmS
             refine RL_cons (OpR_off (by exact wn2 rfl rfl rfl rfl) (by rfl) (by rfl) ?_)
             refine RL_cons (OpR_off (by exact wn2 rfl rfl rfl rfl) (by rfl) (by rfl) ?_)
             refine RL_cons (OpR_off (by exact wn2 rfl rfl rfl rfl) (by rfl) (by rfl) ?_)
             refine RL_cons (OpR_off (by exact wn2 rfl rfl rfl rfl) (by rfl) (by rfl) ?_)
             refine RL_pure (by exact wn0 rfl) (by rfl) (by rfl) (x_pick_f (v := .bool false) (by rfl) (by rfl)) ?_
             refine RL_nil ?_
             exact ⟨⟨congrArg Value.bool (Option.some.inj hm), rfl, rfl, rfl, rfl, rfl, rfl, rfl, rfl, rfl, trivial⟩, H⟩
            ·have hm := cond_t hbS hmS
             refine RL_pure (by exact wn1 rfl rfl rfl rfl) (by rfl) (by rfl) (x_move (v := .int .i64 x203) (by rfl)) ?_
             refine RL_pure (by exact wn1 rfl rfl rfl rfl) (by rfl) (by rfl) (x_fieldAddr fo54_1 (by rfl)) ?_
             refine RL_pure (by exact wn1 rfl rfl rfl rfl) (by rfl) (by rfl) (x_load (j := 1) (v := .int .i64 a0.H) sc3 (by rfl) (H.cells (i := 0) (by rfl)) (by rfl)) ?_
             refine RL_pure (by exact wn1 rfl rfl rfl rfl) (by rfl) (by rfl) (x_lss (by rfl) (by rfl)) ?_
             refine RL_pure (by exact wn0 rfl) (by rfl) (by rfl) (x_pick_t (v := .bool (decide (x203 < a0.H))) (by rfl) (by rfl)) ?_
             refine RL_nil ?_
             exact ⟨⟨congrArg Value.bool (Option.some.inj hm), rfl, rfl, rfl, rfl, rfl, rfl, rfl, rfl, rfl, trivial⟩, H⟩
           ·rintro r' w' ⟨hA, H⟩
            obtain ⟨r205, rfl⟩ := regen _ hA; clear hA
            obtain ⟨w206, rfl⟩ : ∃ W : World, W = w' := ⟨_, rfl⟩
            show RL _ _ _ _ _ _ _
            refine RL_nil ?_
            refine W_cond (by rfl) (fun hb => ?_) (fun hb => ?_)
            ·have hm := cond_t hb hm
             refine W_region ?_
             refine RL_pure (by exact wn0 rfl) (by rfl) (by rfl) (x_move (v := .int .i64 el24) (by rfl)) ?_
             refine RL_pure (by exact wn0 rfl) (by rfl) (by rfl) (x_fieldAddr fo54_2 (by rfl)) ?_
             refine RL_pure (by exact wn0 rfl) (by rfl) (by rfl) (x_load (j := 2) (v := .slice A1 a0.Low.length cp2) sc23 (by rfl) (H.cells (i := 0) (by rfl)) (by rfl)) ?_
             refine RL_pure (by exact wn0 rfl) (by rfl) (by rfl) (x_move (v := .int .i64 x203) (by rfl)) ?_
             refine RL_pure (by exact wn0 rfl) (by rfl) (by rfl) (x_fieldAddr fo54_0 (by rfl)) ?_
             refine RL_pure (by exact wn0 rfl) (by rfl) (by rfl) (x_load (j := 0) (v := .int .i64 a0.W) sc3 (by rfl) (H.cells (i := 0) (by rfl)) (by rfl)) ?_
             obtain ⟨x207, ex207, qx207, ux207, hm⟩ := ck_some hm
             refine RL_pure (by exact wn0 rfl) (by rfl) (by rfl) (x_mul (by rfl) (by rfl) ux207) ?_
             refine RL_pure (by exact wn0 rfl) (by rfl) (by rfl) (x_move (v := .int .i64 x200) (by rfl)) ?_
             obtain ⟨x208, ex208, qx208, ux208, hm⟩ := ck_some hm
             refine RL_pure (by exact wn0 rfl) (by rfl) (by rfl) (x_add (by rfl) (by rfl) ux208) ?_
             obtain ⟨el209, h210, h211, he212, hm⟩ := idx_some hm
             obtain ⟨g214, o215, hA213⟩ := (H.rd (i := 0) (by rfl)).addr he212
             refine RL_pure (by exact wn0 rfl) (by rfl) (by rfl) (x_indexAddr sl23 sz3 (by rfl) (by rfl) hA213 h210 h211) ?_
             refine RL_pure (by exact wn0 rfl) (by rfl) (by rfl) (x_load (j := 0) (v := .int .i64 el209) sc3 (by rfl) (Rd.flatAt (n := 1) (H.rd (i := 0) (by rfl)) hA213 he212) (by rfl)) ?_
             refine RL_pure (by exact wn0 rfl) (by rfl) (by rfl) (x_min2 (by rfl) (by rfl)) ?_
             refine RL_pure (by exact wn0 rfl) (by rfl) (by rfl) (x_assign (v := .int .i64 (mn el24 el209)) (by rfl)) ?_
             refine RL_nil ?_
             refine W_region ?_
             refine RL_pure (by exact wn0 rfl) (by rfl) (by rfl) (x_move (v := .int .i64 3) (by rfl)) ?_
             refine RL_pure (by exact wn0 rfl) (by rfl) (by rfl) (x_add (c := 4) (by rfl) (by rfl) (by decide)) ?_
             refine RL_pure (by exact wn0 rfl) (by rfl) (by rfl) (x_assign (v := .int .i64 4) (by rfl)) ?_
             refine RL_nil ?_
             refine WU_succ ?_
             refine W_seq ?_
             refine W_seq ?_
             refine W_region ?_
             refine RL_pure (by exact wn0 rfl) (by rfl) (by rfl) (x_move (v := .int .i64 4) (by rfl)) ?_
             refine RL_pure (by exact wn0 rfl) (by rfl) (by rfl) (x_lss (by rfl) (by rfl)) ?_
             refine RL_nil ?_
             refine W_cond (t := false) (by first | rfl | decide) (fun hb => by cases hb) (fun _ => ?_)
             refine W_exit ?_
             refine W_region ?_
             refine RL_pure (by exact wn0 rfl) (by rfl) (by rfl) (x_fieldAddr fo54_2 (by rfl)) ?_
             refine RL_pure (by exact wn0 rfl) (by rfl) (by rfl) (x_load (j := 2) (v := .slice A_row72_2 l_row72_2.length c_row72_2) sc23 (by rfl) (H.cells (i := 2) (by rfl)) (by rfl)) ?_
             refine RL_pure (by exact wn0 rfl) (by rfl) (by rfl) (x_move (v := .int .i64 (mn el24 el209)) (by rfl)) ?_
             refine RL_cons (O_buildSlice (vs := [(0, .int .i64 (mn el24 el209))]) (cs := [.int .i64 (mn el24 el209)]) (by exact wn0 rfl) (by rfl) sl23 sz3 ze3 (by rfl) (by rfl) (by rfl) (by kernel_rfl) H (fun w217 b216 (H : Sep ok w w217 [.blk b5 54 [.int .i64 a0.W, .int .i64 a0.H, .slice A1 a0.Low.length cp2], .blk b7 54 [.int .i64 0, .int .i64 0, .slice none 0 0], .blk b13 54 [.int .i64 x10, .int .i64 x12, .slice A_row72_2 l_row72_2.length c_row72_2], .row (.slice A_row72_2 l_row72_2.length c_row72_2) 3 kInt.sz l_row72_2.length cs_row72_2, .blk b216 3 [.int .i64 (mn el24 el209)]] [RE.rd kInt A1 cp2 a0.Low, RE.chunks kInt cs_row72_2 l_row72_2]) => ?_))
             obtain ⟨l222, hl223, hb224, hm⟩ := apd_some hm
             refine RL_cons (O_append (D := kInt) (i := 3) (j := 1) (o := 0) (y := (mn el24 el209)) (by exact wn0 rfl) (by rfl) (by rfl) (by rfl) H (by rfl) (by rfl) (H.cells (i := 4) (by rfl)) rfl hl223 sl23 sz3 by3 ze3 (by rfl) (by rfl) hb224 (by rfl) (fun w218 A219 cp220 cs221 (H : Sep ok w w218 [.blk b5 54 [.int .i64 a0.W, .int .i64 a0.H, .slice A1 a0.Low.length cp2], .blk b7 54 [.int .i64 0, .int .i64 0, .slice none 0 0], .blk b13 54 [.int .i64 x10, .int .i64 x12, .slice A_row72_2 l_row72_2.length c_row72_2], .row (.slice A219 l222.length cp220) 3 kInt.sz l222.length cs221, .blk b216 3 [.int .i64 (mn el24 el209)]] [RE.rd kInt A1 cp2 a0.Low, RE.chunks kInt cs221 l222]) => ?_))
             refine RL_pure (by exact wn0 rfl) (by rfl) (by rfl) (x_fieldAddr fo54_2 (by rfl)) ?_
             refine RL_cons (O_store (i := 2) (off := 2) (by exact wn0 rfl) (by rfl) (by rfl) H (by rfl) (vs := [.slice A219 l222.length cp220]) (by rfl) sz23 (by rfl) (by rfl) (by rfl) (fun w225 (H : Sep ok w w225 [.blk b5 54 [.int .i64 a0.W, .int .i64 a0.H, .slice A1 a0.Low.length cp2], .blk b7 54 [.int .i64 0, .int .i64 0, .slice none 0 0], .blk b13 54 [.int .i64 x10, .int .i64 x12, .slice A219 l222.length cp220], .row (.slice A219 l222.length cp220) 3 kInt.sz l222.length cs221, .blk b216 3 [.int .i64 (mn el24 el209)]] [RE.rd kInt A1 cp2 a0.Low, RE.chunks kInt cs221 l222]) => ?_))
             refine RL_nil ?_
             refine W_region ?_
             refine RL_pure (by exact wn0 rfl) (by rfl) (by rfl) (x_move (v := .int .i64 y5_2) (by rfl)) ?_
             obtain ⟨x226, ex226, qx226, ux226, hm⟩ := ck_some hm
             refine RL_pure (by exact wn0 rfl) (by rfl) (by rfl) (x_add (by rfl) (by rfl) ux226) ?_
             refine RL_pure (by exact wn0 rfl) (by rfl) (by rfl) (x_assign (v := .int .i64 x226) (by rfl)) ?_
             refine RL_nil ?_
             subst hrec2
             exact ⟨k2, Nat.lt_succ_self k2, l222, x226, A219, cp220, cs221, hm, ⟨rfl, rfl, rfl, rfl, rfl, trivial⟩, (H).takeL 4⟩
            ·have hm := cond_f hb hm
             refine W_skip ?_
             refine W_region ?_
             refine RL_pure (by exact wn0 rfl) (by rfl) (by rfl) (x_move (v := .int .i64 3) (by rfl)) ?_
             refine RL_pure (by exact wn0 rfl) (by rfl) (by rfl) (x_add (c := 4) (by rfl) (by rfl) (by decide)) ?_
             refine RL_pure (by exact wn0 rfl) (by rfl) (by rfl) (x_assign (v := .int .i64 4) (by rfl)) ?_
             refine RL_nil ?_
             refine WU_succ ?_
             refine W_seq ?_
             refine W_seq ?_
             refine W_region ?_
             refine RL_pure (by exact wn0 rfl) (by rfl) (by rfl) (x_move (v := .int .i64 4) (by rfl)) ?_
             refine RL_pure (by exact wn0 rfl) (by rfl) (by rfl) (x_lss (by rfl) (by rfl)) ?_
             refine RL_nil ?_
             refine W_cond (t := false) (by first | rfl | decide) (fun hb => by cases hb) (fun _ => ?_)
             refine W_exit ?_
             refine W_region ?_
             refine RL_pure (by exact wn0 rfl) (by rfl) (by rfl) (x_fieldAddr fo54_2 (by rfl)) ?_
             refine RL_pure (by exact wn0 rfl) (by rfl) (by rfl) (x_load (j := 2) (v := .slice A_row72_2 l_row72_2.length c_row72_2) sc23 (by rfl) (H.cells (i := 2) (by rfl)) (by rfl)) ?_
             refine RL_pure (by exact wn0 rfl) (by rfl) (by rfl) (x_move (v := .int .i64 el24) (by rfl)) ?_
             refine RL_cons (O_buildSlice (vs := [(0, .int .i64 el24)]) (cs := [.int .i64 el24]) (by exact wn0 rfl) (by rfl) sl23 sz3 ze3 (by rfl) (by rfl) (by rfl) (by kernel_rfl) H (fun w228 b227 (H : Sep ok w w228 [.blk b5 54 [.int .i64 a0.W, .int .i64 a0.H, .slice A1 a0.Low.length cp2], .blk b7 54 [.int .i64 0, .int .i64 0, .slice none 0 0], .blk b13 54 [.int .i64 x10, .int .i64 x12, .slice A_row72_2 l_row72_2.length c_row72_2], .row (.slice A_row72_2 l_row72_2.length c_row72_2) 3 kInt.sz l_row72_2.length cs_row72_2, .blk b227 3 [.int .i64 el24]] [RE.rd kInt A1 cp2 a0.Low, RE.chunks kInt cs_row72_2 l_row72_2]) => ?_))
             obtain ⟨l233, hl234, hb235, hm⟩ := apd_some hm
             refine RL_cons (O_append (D := kInt) (i := 3) (j := 1) (o := 0) (y := el24) (by exact wn0 rfl) (by rfl) (by rfl) (by rfl) H (by rfl) (by rfl) (H.cells (i := 4) (by rfl)) rfl hl234 sl23 sz3 by3 ze3 (by rfl) (by rfl) hb235 (by rfl) (fun w229 A230 cp231 cs232 (H : Sep ok w w229 [.blk b5 54 [.int .i64 a0.W, .int .i64 a0.H, .slice A1 a0.Low.length cp2], .blk b7 54 [.int .i64 0, .int .i64 0, .slice none 0 0], .blk b13 54 [.int .i64 x10, .int .i64 x12, .slice A_row72_2 l_row72_2.length c_row72_2], .row (.slice A230 l233.length cp231) 3 kInt.sz l233.length cs232, .blk b227 3 [.int .i64 el24]] [RE.rd kInt A1 cp2 a0.Low, RE.chunks kInt cs232 l233]) => ?_))
             refine RL_pure (by exact wn0 rfl) (by rfl) (by rfl) (x_fieldAddr fo54_2 (by rfl)) ?_
             refine RL_cons (O_store (i := 2) (off := 2) (by exact wn0 rfl) (by rfl) (by rfl) H (by rfl) (vs := [.slice A230 l233.length cp231]) (by rfl) sz23 (by rfl) (by rfl) (by rfl) (fun w236 (H : Sep ok w w236 [.blk b5 54 [.int .i64 a0.W, .int .i64 a0.H, .slice A1 a0.Low.length cp2], .blk b7 54 [.int .i64 0, .int .i64 0, .slice none 0 0], .blk b13 54 [.int .i64 x10, .int .i64 x12, .slice A230 l233.length cp231], .row (.slice A230 l233.length cp231) 3 kInt.sz l233.length cs232, .blk b227 3 [.int .i64 el24]] [RE.rd kInt A1 cp2 a0.Low, RE.chunks kInt cs232 l233]) => ?_))
             refine RL_nil ?_
             refine W_region ?_
             refine RL_pure (by exact wn0 rfl) (by rfl) (by rfl) (x_move (v := .int .i64 y5_2) (by rfl)) ?_
             obtain ⟨x237, ex237, qx237, ux237, hm⟩ := ck_some hm
             refine RL_pure (by exact wn0 rfl) (by rfl) (by rfl) (x_add (by rfl) (by rfl) ux237) ?_
             refine RL_pure (by exact wn0 rfl) (by rfl) (by rfl) (x_assign (v := .int .i64 x237) (by rfl)) ?_
             refine RL_nil ?_
             subst hrec2
             exact ⟨k2, Nat.lt_succ_self k2, l233, x237, A230, cp231, cs232, hm, ⟨rfl, rfl, rfl, rfl, rfl, trivial⟩, (H).takeL 4⟩
      ·have hm := cond_f hb hm
       refine W_exit ?_
       refine W_region ?_
       refine RL_pure (by exact wn0 rfl) (by rfl) (by rfl) (x_move (v := .int .i64 y4_1) (by rfl)) ?_
       obtain ⟨x238, ex238, qx238, ux238, hm⟩ := ck_some hm
       refine RL_pure (by exact wn0 rfl) (by rfl) (by rfl) (x_add (by rfl) (by rfl) ux238) ?_
       refine RL_pure (by exact wn0 rfl) (by rfl) (by rfl) (x_assign (v := .int .i64 x238) (by rfl)) ?_
       refine RL_nil ?_
       subst hrec1
       exact ⟨k1, Nat.lt_succ_self k1, l_row72_2, x238, A_row72_2, c_row72_2, cs_row72_2, hm, ⟨rfl, rfl, rfl, rfl, trivial⟩, H⟩
   ·have hm := cond_f hb hm
    refine W_exit ?_
    refine W_seq ?_
    refine W_region ?_
    refine RL_pure (by exact wn0 rfl) (by rfl) (by rfl) (x_loadA (j := 0) (vs := [.int .i64 x10, .int .i64 x12, .slice A_row72_1 l_row72_1.length c_row72_1]) ag54 (by rfl) (H.cells (i := 2) (by rfl)) (by rfl) (by rfl)) ?_
    refine RL_cons (O_store (i := 1) (off := 0) (by exact wn0 rfl) (by rfl) (by rfl) H (by rfl) (vs := [.int .i64 x10, .int .i64 x12, .slice A_row72_1 l_row72_1.length c_row72_1]) (by rfl) sz54 (by rfl) (by rfl) (by rfl) (fun w239 (H : Sep ok w w239 [.blk b5 54 [.int .i64 a0.W, .int .i64 a0.H, .slice A1 a0.Low.length cp2], .blk b7 54 [.int .i64 x10, .int .i64 x12, .slice A_row72_1 l_row72_1.length c_row72_1], .blk b13 54 [.int .i64 x10, .int .i64 x12, .slice A_row72_1 l_row72_1.length c_row72_1], .row (.slice A_row72_1 l_row72_1.length c_row72_1) 3 kInt.sz l_row72_1.length cs_row72_1] [RE.rd kInt A1 cp2 a0.Low, RE.chunks kInt cs_row72_1 l_row72_1]) => ?_))
    refine RL_nil ?_
    refine W_ret ?_
    have H : Sep ok w w239 [.blk b5 54 [.int .i64 a0.W, .int .i64 a0.H, .slice A1 a0.Low.length cp2], .blk b7 54 [.int .i64 x10, .int .i64 x12, .slice A_row72_1 l_row72_1.length c_row72_1], .blk b13 54 [.int .i64 x10, .int .i64 x12, .slice A_row72_1 l_row72_1.length c_row72_1], .hole] [RE.rd kInt A1 cp2 a0.Low, RE.rd kInt A_row72_1 c_row72_1 l_row72_1] := H.frozen (i := 3) (j := 1) (by rfl) (by rfl)
    obtain rfl := Option.some.inj hm
    exact ⟨[.agg #[.int .i64 x10, .int .i64 x12, .slice A_row72_1 l_row72_1.length c_row72_1]], (.cellA (by rfl) ag54 (H.cells (i := 1) (by rfl)) (by rfl) rfl), A_row72_1, c_row72_1, rfl, (H.forgetAll).pick [1]⟩
end Go.Proofs.YtobkigllalbkiaaV.M

/- A plain Lean function that answers as the Go function does (none: not told), and the proof that a call answers so. Written by program. -/
set_option linter.unusedVariables false
namespace Go.Proofs.YtobkigllalbkiaaV.M
open Go.RowKit Go.Proofs.YtobkigllalbkiaaV
def m61_l1b (K : Nat)  (rec1 : (List S_Level) → Int → Int → (List Int) → Option (S_Pyramid)) (l_row11_1 : (List S_Level)) (b5_0_1 : Int) (b5_1_1 : Int) (b5_2_1 : (List Int)) : Option (S_Pyramid) :=
 ((bif (decide (1 < b5_0_1)) then some true else some (decide (1 < b5_1_1))).bind fun b18 => (bif b18 then ((m111 K (⟨b5_0_1, b5_1_1, b5_2_1⟩ : S_Level)).bind fun v22 => (apd 40 l_row11_1 v22 fun l34 => (rec1 l34 v22.W v22.H v22.Low))) else some (⟨l_row11_1⟩ : S_Pyramid)))
def m61_l1 (K : Nat)  : Nat → (List S_Level) → Int → Int → (List Int) → Option (S_Pyramid)
 | 0 => fun _ _ _ _ => none
 | k + 1 => m61_l1b K  (m61_l1 K  k)
/-- diorama/dioramaref27.built -/
def m61 (K : Nat) (a0 : S_Level) : Option (S_Pyramid) :=
 m61_l1 K K ([a0]) a0.W a0.H a0.Low
set_option maxRecDepth 100000 in
set_option maxHeartbeats 4000000 in
theorem c61 (ok : Okp) (K : Nat) (w : World) (a0 : S_Level) (A1 : Option Addr) (cp2 : Nat) (hR3 : Rd kInt w ok A1 cp2 a0.Low) (res : S_Pyramid) (hm : m61 K a0 = some res) :
  Calls Try.prog 61 #[.agg #[.int .i64 a0.W, .int .i64 a0.H, .slice A1 a0.Low.length cp2]] w (fun e w' => ∃ (A0_ : Option Addr) (c0_ : Nat), e = .returned (tup [.agg #[.slice A0_ res.Levels.length c0_]]) ∧ Sep ok w w' [] [RE.rd k_Level A0_ c0_ res.Levels]) := by
 refine calls_W (args := [.agg #[.int .i64 a0.W, .int .i64 a0.H, .slice A1 a0.Low.length cp2]]) Try.func61 rfl Try.ntmps61 Try.results61 rfl fun r hr => ?_
 obtain ⟨r1, rfl⟩ := regen (r := r) [(0, .agg #[.int .i64 a0.W, .int .i64 a0.H, .slice A1 a0.Low.length cp2])] ⟨hr 0 _ rfl, trivial⟩
 have H : Sep ok w w [] [RE.rd kInt A1 cp2 a0.Low] := Sep.arg (Sep.start ok w) (re := RE.rd kInt A1 cp2 a0.Low) rfl rfl hR3
 unfold m61 at hm
 refine W_seq ?_
 refine W_region ?_
 refine RL_cons (O_box (by exact wn0 rfl) (by rfl) (by rfl) (by rfl) H (fun w6 b5 (H : Sep ok w w6 [.blk b5 54 [.int .i64 a0.W, .int .i64 a0.H, .slice A1 a0.Low.length cp2]] [RE.rd kInt A1 cp2 a0.Low]) => ?_))
 refine RL_cons (O_alloc (by exact wn0 rfl) (by rfl) ze28 (by rfl) H (fun w8 b7 (H : Sep ok w w8 [.blk b5 54 [.int .i64 a0.W, .int .i64 a0.H, .slice A1 a0.Low.length cp2], .blk b7 28 [.slice none 0 0]] [RE.rd kInt A1 cp2 a0.Low]) => ?_))
 refine RL_nil ?_
 refine W_seq ?_
 refine W_region ?_
 refine RL_pure (by exact wn0 rfl) (by rfl) (by rfl) (x_loadA (j := 0) (vs := [.int .i64 a0.W, .int .i64 a0.H, .slice A1 a0.Low.length cp2]) ag54 (by rfl) (H.cells (i := 0) (by rfl)) (by rfl) (by rfl)) ?_
 refine RL_cons (O_buildSlice (vs := [(0, .agg #[.int .i64 a0.W, .int .i64 a0.H, .slice A1 a0.Low.length cp2])]) (cs := [.int .i64 a0.W, .int .i64 a0.H, .slice A1 a0.Low.length cp2]) (by exact wn0 rfl) (by rfl) sl26 sz54 ze54 (by rfl) (by rfl) (by rfl) (by kernel_rfl) H (fun w10 b9 (H : Sep ok w w10 [.blk b5 54 [.int .i64 a0.W, .int .i64 a0.H, .slice A1 a0.Low.length cp2], .blk b7 28 [.slice none 0 0], .blk b9 54 [.int .i64 a0.W, .int .i64 a0.H, .slice A1 a0.Low.length cp2]] [RE.rd kInt A1 cp2 a0.Low]) => ?_))
 have H : Sep ok w w10 [.blk b5 54 [.int .i64 a0.W, .int .i64 a0.H, .slice A1 a0.Low.length cp2], .blk b7 28 [.slice none 0 0], .row (.slice (some ⟨b9, 0, none⟩) ([a0]).length 1) 54 k_Level.sz ([a0]).length [.int .i64 a0.W, .int .i64 a0.H, .slice A1 a0.Low.length cp2]] [RE.rd kInt A1 cp2 a0.Low, RE.chunks k_Level [.int .i64 a0.W, .int .i64 a0.H, .slice A1 a0.Low.length cp2] ([a0])] := H.rowOf (i := 2) (D := k_Level) (xs := [a0]) (by rfl) (by exact ⟨(by exact ⟨A1, cp2, rfl, H.rd (i := 0) (by rfl)⟩), rfl⟩) (by rfl)
 refine RL_pure (by exact wn0 rfl) (by rfl) (by rfl) (x_build (vs := [(0, .slice (some ⟨b9, 0, none⟩) ([a0]).length 1)]) (cs := [.slice (some ⟨b9, 0, none⟩) ([a0]).length 1]) (by rfl) (by kernel_rfl)) ?_
 refine RL_cons (O_alloc (by exact wn0 rfl) (by rfl) ze28 (by rfl) H (fun w14 b13 (H : Sep ok w w14 [.blk b5 54 [.int .i64 a0.W, .int .i64 a0.H, .slice A1 a0.Low.length cp2], .blk b7 28 [.slice none 0 0], .row (.slice (some ⟨b9, 0, none⟩) ([a0]).length 1) 54 k_Level.sz ([a0]).length [.int .i64 a0.W, .int .i64 a0.H, .slice A1 a0.Low.length cp2], .blk b13 28 [.slice none 0 0]] [RE.rd kInt A1 cp2 a0.Low, RE.chunks k_Level [.int .i64 a0.W, .int .i64 a0.H, .slice A1 a0.Low.length cp2] ([a0])]) => ?_))
 refine RL_cons (O_store (i := 3) (off := 0) (by exact wn0 rfl) (by rfl) (by rfl) H (by rfl) (vs := [.slice (some ⟨b9, 0, none⟩) ([a0]).length 1]) (by rfl) sz28 (by rfl) (by rfl) (by rfl) (fun w15 (H : Sep ok w w15 [.blk b5 54 [.int .i64 a0.W, .int .i64 a0.H, .slice A1 a0.Low.length cp2], .blk b7 28 [.slice none 0 0], .row (.slice (some ⟨b9, 0, none⟩) ([a0]).length 1) 54 k_Level.sz ([a0]).length [.int .i64 a0.W, .int .i64 a0.H, .slice A1 a0.Low.length cp2], .blk b13 28 [.slice (some ⟨b9, 0, none⟩) ([a0]).length 1]] [RE.rd kInt A1 cp2 a0.Low, RE.chunks k_Level [.int .i64 a0.W, .int .i64 a0.H, .slice A1 a0.Low.length cp2] ([a0])]) => ?_))
 refine RL_nil ?_
 refine W_seq ?_
 refine W_block ?_
 refine W_loop (fun k1 r' w' => ∃ (l_row11_1 : (List S_Level)), ∃ (b5_0_1 : Int), ∃ (b5_1_1 : Int), ∃ (b5_2_1 : (List Int)), ∃ (A_row11_1 : Option Addr), ∃ (c_row11_1 : Nat), ∃ (cs_row11_1 : List Value), ∃ (Ab5_2_1 : Option Addr), ∃ (cb5_2_1 : Nat), m61_l1 K k1 l_row11_1 b5_0_1 b5_1_1 b5_2_1 = some res ∧ Agr [(1, .pointer (some ⟨b5, 0, none⟩)), (2, .pointer (some ⟨b7, 0, none⟩)), (3, .pointer (some ⟨b13, 0, none⟩))] r' ∧ Sep ok w w' [.blk b5 54 [.int .i64 b5_0_1, .int .i64 b5_1_1, .slice Ab5_2_1 b5_2_1.length cb5_2_1], .blk b7 28 [.slice none 0 0], .row (.slice A_row11_1 l_row11_1.length c_row11_1) 54 k_Level.sz l_row11_1.length cs_row11_1, .blk b13 28 [.slice A_row11_1 l_row11_1.length c_row11_1]] [RE.rd kInt A1 cp2 a0.Low, RE.chunks k_Level cs_row11_1 l_row11_1, RE.rd kInt Ab5_2_1 cb5_2_1 b5_2_1]) K ?_ ?_
 ·exact ⟨[a0], a0.W, a0.H, a0.Low, (some ⟨b9, 0, none⟩), 1, [.int .i64 a0.W, .int .i64 a0.H, .slice A1 a0.Low.length cp2], A1, cp2, hm, ⟨rfl, rfl, rfl, trivial⟩, (H).pick [0, 1, 0]⟩
 ·rintro k1 r' w' ⟨l_row11_1, b5_0_1, b5_1_1, b5_2_1, A_row11_1, c_row11_1, cs_row11_1, Ab5_2_1, cb5_2_1, hm, hA, H⟩
  obtain ⟨r16, rfl⟩ := regen _ hA; clear hA
  obtain ⟨w17, rfl⟩ : ∃ W : World, W = w' := ⟨_, rfl⟩
  cases k1 with
  | zero => exact (none_some hm).elim
  | succ k1 =>
   have hm : m61_l1b K (m61_l1 K k1) l_row11_1 b5_0_1 b5_1_1 b5_2_1 = some res := hm
   unfold m61_l1b at hm
   obtain ⟨rec1, hrec1⟩ : ∃ f, m61_l1 K k1 = f := ⟨_, rfl⟩
   rw [hrec1] at hm
   refine W_seq ?_
   refine W_seq ?_
   refine W_region ?_
   refine RL_pure (by exact wn0 rfl) (by rfl) (by rfl) (x_fieldAddr fo54_0 (by rfl)) ?_
   refine RL_pure (by exact wn0 rfl) (by rfl) (by rfl) (x_load (j := 0) (v := .int .i64 b5_0_1) sc3 (by rfl) (H.cells (i := 0) (by rfl)) (by rfl)) ?_
   refine RL_pure (by exact wn0 rfl) (by rfl) (by rfl) (x_gtr (by rfl) (by rfl)) ?_
   refine RL_pure (by exact wn0 rfl) (by rfl) (by rfl) (x_move (v := .bool (decide (1 < b5_0_1))) (by rfl)) ?_
   obtain ⟨b18, hmS, hm⟩ := bind_some hm
   refine RL_cut 4 (fun r' w' => Agr [(14, .bool b18), (1, .pointer (some ⟨b5, 0, none⟩)), (2, .pointer (some ⟨b7, 0, none⟩)), (3, .pointer (some ⟨b13, 0, none⟩))] r' ∧ Sep ok w w' [.blk b5 54 [.int .i64 b5_0_1, .int .i64 b5_1_1, .slice Ab5_2_1 b5_2_1.length cb5_2_1], .blk b7 28 [.slice none 0 0], .row (.slice A_row11_1 l_row11_1.length c_row11_1) 54 k_Level.sz l_row11_1.length cs_row11_1, .blk b13 28 [.slice A_row11_1 l_row11_1.length c_row11_1]] [RE.rd kInt A1 cp2 a0.Low, RE.chunks k_Level cs_row11_1 l_row11_1, RE.rd kInt Ab5_2_1 cb5_2_1 b5_2_1]) ?_ ?_
   ·cases hbS : (decide (1 < b5_0_1))
    ·have hm := cond_f hbS hmS
     refine RL_pure (by exact wn1 rfl rfl rfl rfl) (by rfl) (by rfl) (x_fieldAddr fo54_1 (by rfl)) ?_
     refine RL_pure (by exact wn1 rfl rfl rfl rfl) (by rfl) (by rfl) (x_load (j := 1) (v := .int .i64 b5_1_1) sc3 (by rfl) (H.cells (i := 0) (by rfl)) (by rfl)) ?_
     refine RL_pure (by exact wn1 rfl rfl rfl rfl) (by rfl) (by rfl) (x_gtr (by rfl) (by rfl)) ?_
     refine RL_pure (by exact wn0 rfl) (by rfl) (by rfl) (x_pick_f (v := .bool (decide (1 < b5_1_1))) (by rfl) (by rfl)) ?_
     refine RL_nil ?_
     exact ⟨⟨congrArg Value.bool (Option.some.inj hm), rfl, rfl, rfl, trivial⟩, H⟩
    ·have hm := cond_t hbS hmS
     refine RL_cons (OpR_off (by exact wn2 rfl rfl rfl rfl) (by rfl) (by rfl) ?_)
     refine RL_cons (OpR_off (by exact wn2 rfl rfl rfl rfl) (by rfl) (by rfl) ?_)
     refine RL_cons (OpR_off (by exact wn2 rfl rfl rfl rfl) (by rfl) (by rfl) ?_)
     refine RL_pure (by exact wn0 rfl) (by rfl) (by rfl) (x_pick_t (v := .bool true) (by rfl) (by rfl)) ?_
     refine RL_nil ?_
     exact ⟨⟨congrArg Value.bool (Option.some.inj hm), rfl, rfl, rfl, trivial⟩, H⟩
   ·rintro r' w' ⟨hA, H⟩
    obtain ⟨r19, rfl⟩ := regen _ hA; clear hA
    obtain ⟨w20, rfl⟩ : ∃ W : World, W = w' := ⟨_, rfl⟩
    show RL _ _ _ _ _ _ _
    refine RL_nil ?_
    refine W_cond (by rfl) (fun hb => ?_) (fun hb => ?_)
    ·have hm := cond_t hb hm
     refine W_skip ?_
     refine W_block ?_
     refine W_seq ?_
     refine W_region ?_
     refine RL_pure (by exact wn0 rfl) (by rfl) (by rfl) (x_loadA (j := 0) (vs := [.int .i64 b5_0_1, .int .i64 b5_1_1, .slice Ab5_2_1 b5_2_1.length cb5_2_1]) ag54 (by rfl) (H.cells (i := 0) (by rfl)) (by rfl) (by rfl)) ?_
     obtain ⟨v22, hv21, hm⟩ := bind_some hm
     refine RL_cons (O_call (by exact wn0 rfl) (by rfl) (by rfl) (x_callL (by rfl) (args := [.agg #[.int .i64 b5_0_1, .int .i64 b5_1_1, .slice Ab5_2_1 b5_2_1.length cb5_2_1]]) (by rfl) (cf111 _ _)) (c111 (okS ok w [.blk b5 54 [.int .i64 b5_0_1, .int .i64 b5_1_1, .slice Ab5_2_1 b5_2_1.length cb5_2_1], .blk b7 28 [.slice none 0 0], .row (.slice A_row11_1 l_row11_1.length c_row11_1) 54 k_Level.sz l_row11_1.length cs_row11_1, .blk b13 28 [.slice A_row11_1 l_row11_1.length c_row11_1]]) K w20 (⟨b5_0_1, b5_1_1, b5_2_1⟩ : S_Level) Ab5_2_1 cb5_2_1 (H.rd (i := 2) (by rfl)) v22 hv21) ?_)
     rintro e w23 ⟨A24, cp25, rfl, H2⟩
     have H : Sep ok w w23 [.blk b5 54 [.int .i64 b5_0_1, .int .i64 b5_1_1, .slice Ab5_2_1 b5_2_1.length cb5_2_1], .blk b7 28 [.slice none 0 0], .row (.slice A_row11_1 l_row11_1.length c_row11_1) 54 k_Level.sz l_row11_1.length cs_row11_1, .blk b13 28 [.slice A_row11_1 l_row11_1.length c_row11_1]] [RE.rd kInt A1 cp2 a0.Low, RE.chunks k_Level cs_row11_1 l_row11_1, RE.rd kInt Ab5_2_1 cb5_2_1 b5_2_1, RE.rd kInt A24 cp25 v22.Low] := H.call H2
     clear H2
     refine ⟨_, rfl, ?_⟩
     show RL _ _ _ _ _ _ _
     refine RL_cons (O_store (i := 0) (off := 0) (by exact wn0 rfl) (by rfl) (by rfl) H (by rfl) (vs := [.int .i64 v22.W, .int .i64 v22.H, .slice A24 v22.Low.length cp25]) (by rfl) sz54 (by rfl) (by rfl) (by rfl) (fun w27 (H : Sep ok w w27 [.blk b5 54 [.int .i64 v22.W, .int .i64 v22.H, .slice A24 v22.Low.length cp25], .blk b7 28 [.slice none 0 0], .row (.slice A_row11_1 l_row11_1.length c_row11_1) 54 k_Level.sz l_row11_1.length cs_row11_1, .blk b13 28 [.slice A_row11_1 l_row11_1.length c_row11_1]] [RE.rd kInt A1 cp2 a0.Low, RE.chunks k_Level cs_row11_1 l_row11_1, RE.rd kInt Ab5_2_1 cb5_2_1 b5_2_1, RE.rd kInt A24 cp25 v22.Low]) => ?_))
     refine RL_nil ?_
     refine W_region ?_
     refine RL_pure (by exact wn0 rfl) (by rfl) (by rfl) (x_fieldAddr fo28_0 (by rfl)) ?_
     refine RL_pure (by exact wn0 rfl) (by rfl) (by rfl) (x_load (j := 0) (v := .slice A_row11_1 l_row11_1.length c_row11_1) sc26 (by rfl) (H.cells (i := 3) (by rfl)) (by rfl)) ?_
     refine RL_pure (by exact wn0 rfl) (by rfl) (by rfl) (x_loadA (j := 0) (vs := [.int .i64 v22.W, .int .i64 v22.H, .slice A24 v22.Low.length cp25]) ag54 (by rfl) (H.cells (i := 0) (by rfl)) (by rfl) (by rfl)) ?_
     refine RL_cons (O_buildSlice (vs := [(0, .agg #[.int .i64 v22.W, .int .i64 v22.H, .slice A24 v22.Low.length cp25])]) (cs := [.int .i64 v22.W, .int .i64 v22.H, .slice A24 v22.Low.length cp25]) (by exact wn0 rfl) (by rfl) sl26 sz54 ze54 (by rfl) (by rfl) (by rfl) (by kernel_rfl) H (fun w29 b28 (H : Sep ok w w29 [.blk b5 54 [.int .i64 v22.W, .int .i64 v22.H, .slice A24 v22.Low.length cp25], .blk b7 28 [.slice none 0 0], .row (.slice A_row11_1 l_row11_1.length c_row11_1) 54 k_Level.sz l_row11_1.length cs_row11_1, .blk b13 28 [.slice A_row11_1 l_row11_1.length c_row11_1], .blk b28 54 [.int .i64 v22.W, .int .i64 v22.H, .slice A24 v22.Low.length cp25]] [RE.rd kInt A1 cp2 a0.Low, RE.chunks k_Level cs_row11_1 l_row11_1, RE.rd kInt Ab5_2_1 cb5_2_1 b5_2_1, RE.rd kInt A24 cp25 v22.Low]) => ?_))
     obtain ⟨l34, hl35, hb36, hm⟩ := apd_some hm
     refine RL_cons (O_append (D := k_Level) (i := 2) (j := 1) (o := 0) (y := v22) (by exact wn0 rfl) (by rfl) (by rfl) (by rfl) H (by rfl) (by rfl) (H.cells (i := 4) (by rfl)) (by exact ⟨A24, cp25, rfl, H.rd (i := 3) (by rfl)⟩) hl35 sl26 sz54 by54 ze54 (by rfl) (by rfl) hb36 (by rfl) (fun w30 A31 cp32 cs33 (H : Sep ok w w30 [.blk b5 54 [.int .i64 v22.W, .int .i64 v22.H, .slice A24 v22.Low.length cp25], .blk b7 28 [.slice none 0 0], .row (.slice A31 l34.length cp32) 54 k_Level.sz l34.length cs33, .blk b13 28 [.slice A_row11_1 l_row11_1.length c_row11_1], .blk b28 54 [.int .i64 v22.W, .int .i64 v22.H, .slice A24 v22.Low.length cp25]] [RE.rd kInt A1 cp2 a0.Low, RE.chunks k_Level cs33 l34, RE.rd kInt Ab5_2_1 cb5_2_1 b5_2_1, RE.rd kInt A24 cp25 v22.Low]) => ?_))
     refine RL_pure (by exact wn0 rfl) (by rfl) (by rfl) (x_fieldAddr fo28_0 (by rfl)) ?_
     refine RL_cons (O_store (i := 3) (off := 0) (by exact wn0 rfl) (by rfl) (by rfl) H (by rfl) (vs := [.slice A31 l34.length cp32]) (by rfl) sz26 (by rfl) (by rfl) (by rfl) (fun w37 (H : Sep ok w w37 [.blk b5 54 [.int .i64 v22.W, .int .i64 v22.H, .slice A24 v22.Low.length cp25], .blk b7 28 [.slice none 0 0], .row (.slice A31 l34.length cp32) 54 k_Level.sz l34.length cs33, .blk b13 28 [.slice A31 l34.length cp32], .blk b28 54 [.int .i64 v22.W, .int .i64 v22.H, .slice A24 v22.Low.length cp25]] [RE.rd kInt A1 cp2 a0.Low, RE.chunks k_Level cs33 l34, RE.rd kInt Ab5_2_1 cb5_2_1 b5_2_1, RE.rd kInt A24 cp25 v22.Low]) => ?_))
     refine RL_nil ?_
     subst hrec1
     exact ⟨k1, Nat.lt_succ_self k1, l34, v22.W, v22.H, v22.Low, A31, cp32, cs33, A24, cp25, hm, ⟨rfl, rfl, rfl, trivial⟩, ((H).takeL 4).pick [0, 1, 3]⟩
    ·have hm := cond_f hb hm
     refine W_exit ?_
     refine W_seq ?_
     refine W_region ?_
     refine RL_pure (by exact wn0 rfl) (by rfl) (by rfl) (x_loadA (j := 0) (vs := [.slice A_row11_1 l_row11_1.length c_row11_1]) ag28 (by rfl) (H.cells (i := 3) (by rfl)) (by rfl) (by rfl)) ?_
     refine RL_cons (O_store (i := 1) (off := 0) (by exact wn0 rfl) (by rfl) (by rfl) H (by rfl) (vs := [.slice A_row11_1 l_row11_1.length c_row11_1]) (by rfl) sz28 (by rfl) (by rfl) (by rfl) (fun w38 (H : Sep ok w w38 [.blk b5 54 [.int .i64 b5_0_1, .int .i64 b5_1_1, .slice Ab5_2_1 b5_2_1.length cb5_2_1], .blk b7 28 [.slice A_row11_1 l_row11_1.length c_row11_1], .row (.slice A_row11_1 l_row11_1.length c_row11_1) 54 k_Level.sz l_row11_1.length cs_row11_1, .blk b13 28 [.slice A_row11_1 l_row11_1.length c_row11_1]] [RE.rd kInt A1 cp2 a0.Low, RE.chunks k_Level cs_row11_1 l_row11_1, RE.rd kInt Ab5_2_1 cb5_2_1 b5_2_1]) => ?_))
     refine RL_nil ?_
     refine W_ret ?_
     have H : Sep ok w w38 [.blk b5 54 [.int .i64 b5_0_1, .int .i64 b5_1_1, .slice Ab5_2_1 b5_2_1.length cb5_2_1], .blk b7 28 [.slice A_row11_1 l_row11_1.length c_row11_1], .hole, .blk b13 28 [.slice A_row11_1 l_row11_1.length c_row11_1]] [RE.rd kInt A1 cp2 a0.Low, RE.rd k_Level A_row11_1 c_row11_1 l_row11_1, RE.rd kInt Ab5_2_1 cb5_2_1 b5_2_1] := H.frozen (i := 2) (j := 1) (by rfl) (by rfl)
     obtain rfl := Option.some.inj hm
     exact ⟨[.agg #[.slice A_row11_1 l_row11_1.length c_row11_1]], (.cellA (by rfl) ag28 (H.cells (i := 1) (by rfl)) (by rfl) rfl), A_row11_1, c_row11_1, rfl, (H.forgetAll).pick [1]⟩
end Go.Proofs.YtobkigllalbkiaaV.M

/- A plain Lean function that answers as the Go function does (none: not told), and the proof that a call answers so. Written by program. -/
set_option linter.unusedVariables false
namespace Go.Proofs.YtobkigllalbkiaaV.M
open Go.RowKit Go.Proofs.YtobkigllalbkiaaV
def m23_l1b (K : Nat) (a0 : S_Pyramid) (el7 : S_Level) (rec1 : Int → Option (Int)) (y4_1 : Int) : Option (Int) :=
 (bif (decide (y4_1 < (el7.Low.length : Int))) then (idx el7.Low y4_1 fun el42 => ((bif (decide (el42 < (-2048))) then some true else (idx el7.Low y4_1 fun el50 => some (decide (66560 < el50)))).bind fun b49 => (bif b49 then some 8 else (ck (y4_1 + 1) fun x59 => (rec1 x59))))) else ((m61 K el7).bind fun v62 => ((m21 K v62 a0).bind fun v68 => (bif (!v68) then some 8 else some 0))))
def m23_l1 (K : Nat) (a0 : S_Pyramid) (el7 : S_Level) : Nat → Int → Option (Int)
 | 0 => fun _ => none
 | k + 1 => m23_l1b K a0 el7 (m23_l1 K a0 el7 k)
/-- diorama/dioramaref27.Check -/
def m23 (K : Nat) (a0 : S_Pyramid) : Option (Int) :=
 (bif ((a0.Levels.length : Int) == 0) then some 8 else (idx a0.Levels 0 fun el7 => ((bif (decide (el7.W < 1)) then some true else some (decide (64 < el7.W))).bind fun b27 => ((bif b27 then some true else some (decide (el7.H < 1))).bind fun b30 => ((bif b30 then some true else some (decide (64 < el7.H))).bind fun b33 => ((bif b33 then some true else (ck (el7.W * el7.H) fun x37 => some ((el7.Low.length : Int) != x37))).bind fun b36 => (bif b36 then some 8 else m23_l1 K a0 el7 K 0)))))))
set_option maxRecDepth 100000 in
set_option maxHeartbeats 4000000 in
theorem c23 (ok : Okp) (K : Nat) (w : World) (a0 : S_Pyramid) (A1 : Option Addr) (cp2 : Nat) (hR3 : Rd k_Level w ok A1 cp2 a0.Levels) (res : Int) (hm : m23 K a0 = some res) :
  Calls Try.prog 23 #[.agg #[.slice A1 a0.Levels.length cp2]] w (fun e w' => e = .returned (tup [.int .i64 res]) ∧ Sep ok w w' [] []) := by
 refine calls_W (args := [.agg #[.slice A1 a0.Levels.length cp2]]) Try.func23 rfl Try.ntmps23 Try.results23 rfl fun r hr => ?_
 obtain ⟨r1, rfl⟩ := regen (r := r) [(0, .agg #[.slice A1 a0.Levels.length cp2])] ⟨hr 0 _ rfl, trivial⟩
 have H : Sep ok w w [] [RE.rd k_Level A1 cp2 a0.Levels] := Sep.arg (Sep.start ok w) (re := RE.rd k_Level A1 cp2 a0.Levels) rfl rfl hR3
 unfold m23 at hm
 refine W_seq ?_
 refine W_region ?_
 refine RL_cons (O_box (by exact wn0 rfl) (by rfl) (by rfl) (by rfl) H (fun w6 b5 (H : Sep ok w w6 [.blk b5 28 [.slice A1 a0.Levels.length cp2]] [RE.rd k_Level A1 cp2 a0.Levels]) => ?_))
 refine RL_pure (by exact wn0 rfl) (by rfl) (by rfl) (x_assign (v := .int .i64 0) (by rfl)) ?_
 refine RL_nil ?_
 refine W_seq ?_
 refine W_seq ?_
 refine W_region ?_
 refine RL_pure (by exact wn0 rfl) (by rfl) (by rfl) (x_fieldAddr fo28_0 (by rfl)) ?_
 refine RL_pure (by exact wn0 rfl) (by rfl) (by rfl) (x_load (j := 0) (v := .slice A1 a0.Levels.length cp2) sc26 (by rfl) (H.cells (i := 0) (by rfl)) (by rfl)) ?_
 refine RL_pure (by exact wn0 rfl) (by rfl) (by rfl) (x_len sl26 (by rfl)) ?_
 refine RL_pure (by exact wn0 rfl) (by rfl) (by rfl) (x_eql (by rfl) (by rfl)) ?_
 refine RL_nil ?_
 refine W_cond (by rfl) (fun hb => ?_) (fun hb => ?_)
 ·have hm := cond_t hb hm
  refine W_seq ?_
  refine W_region ?_
  refine RL_pure (by exact wn0 rfl) (by rfl) (by rfl) (x_assign (v := .int .i64 8) (by rfl)) ?_
  refine RL_nil ?_
  refine W_ret ?_
  obtain rfl := Option.some.inj hm
  exact ⟨[.int .i64 8], (.tmp (by rfl) rfl), rfl, H.none_⟩
 ·have hm := cond_f hb hm
  refine W_skip ?_
  refine W_seq ?_
  refine W_region ?_
  refine RL_pure (by exact wn0 rfl) (by rfl) (by rfl) (x_fieldAddr fo28_0 (by rfl)) ?_
  refine RL_pure (by exact wn0 rfl) (by rfl) (by rfl) (x_load (j := 0) (v := .slice A1 a0.Levels.length cp2) sc26 (by rfl) (H.cells (i := 0) (by rfl)) (by rfl)) ?_
  obtain ⟨el7, h8, h9, he10, hm⟩ := idx_some hm
  obtain ⟨g12, o13, hA11⟩ := (H.rd (i := 0) (by rfl)).addr he10
  obtain ⟨cs14, hk15, hat16, hg_cs14⟩ := (H.rd (i := 0) (by rfl)).openAt hA11 he10
  obtain ⟨A19, cp20, rfl, hR22⟩ := hk15
  have H : Sep ok w w6 [.blk b5 28 [.slice A1 a0.Levels.length cp2]] [RE.rd k_Level A1 cp2 a0.Levels, RE.cells g12 (o13 + (0 : Int).toNat * 3) [.int .i64 el7.W, .int .i64 el7.H, .slice A19 el7.Low.length cp20]] := Sep.also H (re := RE.cells g12 (o13 + (0 : Int).toNat * 3) [.int .i64 el7.W, .int .i64 el7.H, .slice A19 el7.Low.length cp20]) ⟨hg_cs14, hat16⟩
  have H : Sep ok w w6 [.blk b5 28 [.slice A1 a0.Levels.length cp2]] [RE.rd k_Level A1 cp2 a0.Levels, RE.cells g12 (o13 + (0 : Int).toNat * 3) [.int .i64 el7.W, .int .i64 el7.H, .slice A19 el7.Low.length cp20], RE.rd kInt A19 cp20 el7.Low] := Sep.also H (re := RE.rd kInt A19 cp20 el7.Low) hR22
  refine RL_pure (by exact wn0 rfl) (by rfl) (by rfl) (x_indexAddr sl26 sz54 (by rfl) (by rfl) hA11 h8 h9) ?_
  refine RL_pure (by exact wn0 rfl) (by rfl) (by rfl) (x_loadA (j := 0) (vs := [.int .i64 el7.W, .int .i64 el7.H, .slice A19 el7.Low.length cp20]) ag54 (by rfl) (H.cellsR (i := 1) (by rfl)) (by rfl) (by rfl)) ?_
  refine RL_cons (O_alloc (by exact wn0 rfl) (by rfl) ze54 (by rfl) H (fun w25 b24 (H : Sep ok w w25 [.blk b5 28 [.slice A1 a0.Levels.length cp2], .blk b24 54 [.int .i64 0, .int .i64 0, .slice none 0 0]] [RE.rd k_Level A1 cp2 a0.Levels, RE.cells g12 (o13 + (0 : Int).toNat * 3) [.int .i64 el7.W, .int .i64 el7.H, .slice A19 el7.Low.length cp20], RE.rd kInt A19 cp20 el7.Low]) => ?_))
  refine RL_cons (O_store (i := 1) (off := 0) (by exact wn0 rfl) (by rfl) (by rfl) H (by rfl) (vs := [.int .i64 el7.W, .int .i64 el7.H, .slice A19 el7.Low.length cp20]) (by rfl) sz54 (by rfl) (by rfl) (by rfl) (fun w26 (H : Sep ok w w26 [.blk b5 28 [.slice A1 a0.Levels.length cp2], .blk b24 54 [.int .i64 el7.W, .int .i64 el7.H, .slice A19 el7.Low.length cp20]] [RE.rd k_Level A1 cp2 a0.Levels, RE.cells g12 (o13 + (0 : Int).toNat * 3) [.int .i64 el7.W, .int .i64 el7.H, .slice A19 el7.Low.length cp20], RE.rd kInt A19 cp20 el7.Low]) => ?_))
  refine RL_nil ?_
  refine W_seq ?_
  refine W_seq ?_
  refine W_region ?_
  refine RL_pure (by exact wn0 rfl) (by rfl) (by rfl) (x_fieldAddr fo54_0 (by rfl)) ?_
  refine RL_pure (by exact wn0 rfl) (by rfl) (by rfl) (x_load (j := 0) (v := .int .i64 el7.W) sc3 (by rfl) (H.cells (i := 1) (by rfl)) (by rfl)) ?_
  refine RL_pure (by exact wn0 rfl) (by rfl) (by rfl) (x_lss (by rfl) (by rfl)) ?_
  refine RL_pure (by exact wn0 rfl) (by rfl) (by rfl) (x_move (v := .bool (decide (el7.W < 1))) (by rfl)) ?_
  obtain ⟨b27, hmS, hm⟩ := bind_some hm
  refine RL_cut 4 (fun r' w' => Agr [(20, .bool b27), (1, .pointer (some ⟨b5, 0, none⟩)), (3, .pointer (some ⟨b24, 0, none⟩))] r' ∧ Sep ok w w' [.blk b5 28 [.slice A1 a0.Levels.length cp2], .blk b24 54 [.int .i64 el7.W, .int .i64 el7.H, .slice A19 el7.Low.length cp20]] [RE.rd k_Level A1 cp2 a0.Levels, RE.cells g12 (o13 + (0 : Int).toNat * 3) [.int .i64 el7.W, .int .i64 el7.H, .slice A19 el7.Low.length cp20], RE.rd kInt A19 cp20 el7.Low]) ?_ ?_
  ·cases hbS : (decide (el7.W < 1))
   ·have hm := cond_f hbS hmS
    refine RL_pure (by exact wn1 rfl rfl rfl rfl) (by rfl) (by rfl) (x_fieldAddr fo54_0 (by rfl)) ?_
    refine RL_pure (by exact wn1 rfl rfl rfl rfl) (by rfl) (by rfl) (x_load (j := 0) (v := .int .i64 el7.W) sc3 (by rfl) (H.cells (i := 1) (by rfl)) (by rfl)) ?_
    refine RL_pure (by exact wn1 rfl rfl rfl rfl) (by rfl) (by rfl) (x_gtr (by rfl) (by rfl)) ?_
    refine RL_pure (by exact wn0 rfl) (by rfl) (by rfl) (x_pick_f (v := .bool (decide (64 < el7.W))) (by rfl) (by rfl)) ?_
    refine RL_nil ?_
    exact ⟨⟨congrArg Value.bool (Option.some.inj hm), rfl, rfl, trivial⟩, H⟩
   ·have hm := cond_t hbS hmS
    refine RL_cons (OpR_off (by exact wn2 rfl rfl rfl rfl) (by rfl) (by rfl) ?_)
    refine RL_cons (OpR_off (by exact wn2 rfl rfl rfl rfl) (by rfl) (by rfl) ?_)
    refine RL_cons (OpR_off (by exact wn2 rfl rfl rfl rfl) (by rfl) (by rfl) ?_)
    refine RL_pure (by exact wn0 rfl) (by rfl) (by rfl) (x_pick_t (v := .bool true) (by rfl) (by rfl)) ?_
    refine RL_nil ?_
    exact ⟨⟨congrArg Value.bool (Option.some.inj hm), rfl, rfl, trivial⟩, H⟩
  ·rintro r' w' ⟨hA, H⟩
   obtain ⟨r28, rfl⟩ := regen _ hA; clear hA
   obtain ⟨w29, rfl⟩ : ∃ W : World, W = w' := ⟨_, rfl⟩
   show RL _ _ _ _ _ _ _
   refine RL_pure (by exact wn0 rfl) (by rfl) (by rfl) (x_move (v := .bool b27) (by rfl)) ?_
   obtain ⟨b30, hmS, hm⟩ := bind_some hm
   refine RL_cut 4 (fun r' w' => Agr [(25, .bool b30), (1, .pointer (some ⟨b5, 0, none⟩)), (3, .pointer (some ⟨b24, 0, none⟩))] r' ∧ Sep ok w w' [.blk b5 28 [.slice A1 a0.Levels.length cp2], .blk b24 54 [.int .i64 el7.W, .int .i64 el7.H, .slice A19 el7.Low.length cp20]] [RE.rd k_Level A1 cp2 a0.Levels, RE.cells g12 (o13 + (0 : Int).toNat * 3) [.int .i64 el7.W, .int .i64 el7.H, .slice A19 el7.Low.length cp20], RE.rd kInt A19 cp20 el7.Low]) ?_ ?_
   ·cases hbS : b27
    ·have hm := cond_f hbS hmS
     refine RL_pure (by exact wn1 rfl rfl rfl rfl) (by rfl) (by rfl) (x_fieldAddr fo54_1 (by rfl)) ?_
     refine RL_pure (by exact wn1 rfl rfl rfl rfl) (by rfl) (by rfl) (x_load (j := 1) (v := .int .i64 el7.H) sc3 (by rfl) (H.cells (i := 1) (by rfl)) (by rfl)) ?_
     refine RL_pure (by exact wn1 rfl rfl rfl rfl) (by rfl) (by rfl) (x_lss (by rfl) (by rfl)) ?_
     refine RL_pure (by exact wn0 rfl) (by rfl) (by rfl) (x_pick_f (v := .bool (decide (el7.H < 1))) (by rfl) (by rfl)) ?_
     refine RL_nil ?_
     exact ⟨⟨congrArg Value.bool (Option.some.inj hm), rfl, rfl, trivial⟩, H⟩
    ·have hm := cond_t hbS hmS
     refine RL_cons (OpR_off (by exact wn2 rfl rfl rfl rfl) (by rfl) (by rfl) ?_)
     refine RL_cons (OpR_off (by exact wn2 rfl rfl rfl rfl) (by rfl) (by rfl) ?_)
     refine RL_cons (OpR_off (by exact wn2 rfl rfl rfl rfl) (by rfl) (by rfl) ?_)
     refine RL_pure (by exact wn0 rfl) (by rfl) (by rfl) (x_pick_t (v := .bool true) (by rfl) (by rfl)) ?_
     refine RL_nil ?_
     exact ⟨⟨congrArg Value.bool (Option.some.inj hm), rfl, rfl, trivial⟩, H⟩
   ·rintro r' w' ⟨hA, H⟩
    obtain ⟨r31, rfl⟩ := regen _ hA; clear hA
    obtain ⟨w32, rfl⟩ : ∃ W : World, W = w' := ⟨_, rfl⟩
    show RL _ _ _ _ _ _ _
    refine RL_pure (by exact wn0 rfl) (by rfl) (by rfl) (x_move (v := .bool b30) (by rfl)) ?_
    obtain ⟨b33, hmS, hm⟩ := bind_some hm
    refine RL_cut 4 (fun r' w' => Agr [(30, .bool b33), (1, .pointer (some ⟨b5, 0, none⟩)), (3, .pointer (some ⟨b24, 0, none⟩))] r' ∧ Sep ok w w' [.blk b5 28 [.slice A1 a0.Levels.length cp2], .blk b24 54 [.int .i64 el7.W, .int .i64 el7.H, .slice A19 el7.Low.length cp20]] [RE.rd k_Level A1 cp2 a0.Levels, RE.cells g12 (o13 + (0 : Int).toNat * 3) [.int .i64 el7.W, .int .i64 el7.H, .slice A19 el7.Low.length cp20], RE.rd kInt A19 cp20 el7.Low]) ?_ ?_
    ·cases hbS : b30
     ·have hm := cond_f hbS hmS
      refine RL_pure (by exact wn1 rfl rfl rfl rfl) (by rfl) (by rfl) (x_fieldAddr fo54_1 (by rfl)) ?_
      refine RL_pure (by exact wn1 rfl rfl rfl rfl) (by rfl) (by rfl) (x_load (j := 1) (v := .int .i64 el7.H) sc3 (by rfl) (H.cells (i := 1) (by rfl)) (by rfl)) ?_
      refine RL_pure (by exact wn1 rfl rfl rfl rfl) (by rfl) (by rfl) (x_gtr (by rfl) (by rfl)) ?_
      refine RL_pure (by exact wn0 rfl) (by rfl) (by rfl) (x_pick_f (v := .bool (decide (64 < el7.H))) (by rfl) (by rfl)) ?_
      refine RL_nil ?_
      exact ⟨⟨congrArg Value.bool (Option.some.inj hm), rfl, rfl, trivial⟩, H⟩
     ·have hm := cond_t hbS hmS
      refine RL_cons (OpR_off (by exact wn2 rfl rfl rfl rfl) (by rfl) (by rfl) ?_)
      refine RL_cons (OpR_off (by exact wn2 rfl rfl rfl rfl) (by rfl) (by rfl) ?_)
      refine RL_cons (OpR_off (by exact wn2 rfl rfl rfl rfl) (by rfl) (by rfl) ?_)
      refine RL_pure (by exact wn0 rfl) (by rfl) (by rfl) (x_pick_t (v := .bool true) (by rfl) (by rfl)) ?_
      refine RL_nil ?_
      exact ⟨⟨congrArg Value.bool (Option.some.inj hm), rfl, rfl, trivial⟩, H⟩
    ·rintro r' w' ⟨hA, H⟩
     obtain ⟨r34, rfl⟩ := regen _ hA; clear hA
     obtain ⟨w35, rfl⟩ : ∃ W : World, W = w' := ⟨_, rfl⟩
     show RL _ _ _ _ _ _ _
     refine RL_pure (by exact wn0 rfl) (by rfl) (by rfl) (x_move (v := .bool b33) (by rfl)) ?_
     obtain ⟨b36, hmS, hm⟩ := bind_some hm
     refine RL_cut 10 (fun r' w' => Agr [(41, .bool b36), (1, .pointer (some ⟨b5, 0, none⟩)), (3, .pointer (some ⟨b24, 0, none⟩))] r' ∧ Sep ok w w' [.blk b5 28 [.slice A1 a0.Levels.length cp2], .blk b24 54 [.int .i64 el7.W, .int .i64 el7.H, .slice A19 el7.Low.length cp20]] [RE.rd k_Level A1 cp2 a0.Levels, RE.cells g12 (o13 + (0 : Int).toNat * 3) [.int .i64 el7.W, .int .i64 el7.H, .slice A19 el7.Low.length cp20], RE.rd kInt A19 cp20 el7.Low]) ?_ ?_
     ·cases hbS : b33
      ·have hm := cond_f hbS hmS
       refine RL_pure (by exact wn1 rfl rfl rfl rfl) (by rfl) (by rfl) (x_fieldAddr fo54_2 (by rfl)) ?_
       refine RL_pure (by exact wn1 rfl rfl rfl rfl) (by rfl) (by rfl) (x_load (j := 2) (v := .slice A19 el7.Low.length cp20) sc23 (by rfl) (H.cells (i := 1) (by rfl)) (by rfl)) ?_
       refine RL_pure (by exact wn1 rfl rfl rfl rfl) (by rfl) (by rfl) (x_len sl23 (by rfl)) ?_
       refine RL_pure (by exact wn1 rfl rfl rfl rfl) (by rfl) (by rfl) (x_fieldAddr fo54_0 (by rfl)) ?_
       refine RL_pure (by exact wn1 rfl rfl rfl rfl) (by rfl) (by rfl) (x_load (j := 0) (v := .int .i64 el7.W) sc3 (by rfl) (H.cells (i := 1) (by rfl)) (by rfl)) ?_
       refine RL_pure (by exact wn1 rfl rfl rfl rfl) (by rfl) (by rfl) (x_fieldAddr fo54_1 (by rfl)) ?_
       refine RL_pure (by exact wn1 rfl rfl rfl rfl) (by rfl) (by rfl) (x_load (j := 1) (v := .int .i64 el7.H) sc3 (by rfl) (H.cells (i := 1) (by rfl)) (by rfl)) ?_
       obtain ⟨x37, ex37, qx37, ux37, hm⟩ := ck_some hm
       refine RL_pure (by exact wn1 rfl rfl rfl rfl) (by rfl) (by rfl) (x_mul (by rfl) (by rfl) ux37) ?_
       refine RL_pure (by exact wn1 rfl rfl rfl rfl) (by rfl) (by rfl) (x_neq (by rfl) (by rfl)) ?_
       refine RL_pure (by exact wn0 rfl) (by rfl) (by rfl) (x_pick_f (v := .bool ((el7.Low.length : Int) != x37)) (by rfl) (by rfl)) ?_
       refine RL_nil ?_
       exact ⟨⟨congrArg Value.bool (Option.some.inj hm), rfl, rfl, trivial⟩, H⟩
      ·have hm := cond_t hbS hmS
       refine RL_cons (OpR_off (by exact wn2 rfl rfl rfl rfl) (by rfl) (by rfl) ?_)
       refine RL_cons (OpR_off (by exact wn2 rfl rfl rfl rfl) (by rfl) (by rfl) ?_)
       refine RL_cons (OpR_off (by exact wn2 rfl rfl rfl rfl) (by rfl) (by rfl) ?_)
       refine RL_cons (OpR_off (by exact wn2 rfl rfl rfl rfl) (by rfl) (by rfl) ?_)
       refine RL_cons (OpR_off (by exact wn2 rfl rfl rfl rfl) (by rfl) (by rfl) ?_)
       refine RL_cons (OpR_off (by exact wn2 rfl rfl rfl rfl) (by rfl) (by rfl) ?_)
       refine RL_cons (OpR_off (by exact wn2 rfl rfl rfl rfl) (by rfl) (by rfl) ?_)
       refine RL_cons (OpR_off (by exact wn2 rfl rfl rfl rfl) (by rfl) (by rfl) ?_)
       refine RL_cons (OpR_off (by exact wn2 rfl rfl rfl rfl) (by rfl) (by rfl) ?_)
       refine RL_pure (by exact wn0 rfl) (by rfl) (by rfl) (x_pick_t (v := .bool true) (by rfl) (by rfl)) ?_
       refine RL_nil ?_
       exact ⟨⟨congrArg Value.bool (Option.some.inj hm), rfl, rfl, trivial⟩, H⟩
     ·rintro r' w' ⟨hA, H⟩
      obtain ⟨r38, rfl⟩ := regen _ hA; clear hA
      obtain ⟨w39, rfl⟩ : ∃ W : World, W = w' := ⟨_, rfl⟩
      show RL _ _ _ _ _ _ _
      refine RL_nil ?_
      refine W_cond (by rfl) (fun hb => ?_) (fun hb => ?_)
      ·have hm := cond_t hb hm
       refine W_seq ?_
       refine W_region ?_
       refine RL_pure (by exact wn0 rfl) (by rfl) (by rfl) (x_assign (v := .int .i64 8) (by rfl)) ?_
       refine RL_nil ?_
       refine W_ret ?_
       obtain rfl := Option.some.inj hm
       exact ⟨[.int .i64 8], (.tmp (by rfl) rfl), rfl, H.none_⟩
      ·have hm := cond_f hb hm
       refine W_skip ?_
       refine W_seq ?_
       refine W_seq ?_
       refine W_region ?_
       refine RL_pure (by exact wn0 rfl) (by rfl) (by rfl) (x_assign (v := .int .i64 0) (by rfl)) ?_
       refine RL_nil ?_
       refine W_block ?_
       refine W_loop (fun k1 r' w' => ∃ (y4_1 : Int), m23_l1 K a0 el7 k1 y4_1 = some res ∧ Agr [(1, .pointer (some ⟨b5, 0, none⟩)), (3, .pointer (some ⟨b24, 0, none⟩)), (4, .int .i64 y4_1)] r' ∧ Sep ok w w' [.blk b5 28 [.slice A1 a0.Levels.length cp2], .blk b24 54 [.int .i64 el7.W, .int .i64 el7.H, .slice A19 el7.Low.length cp20]] [RE.rd k_Level A1 cp2 a0.Levels, RE.cells g12 (o13 + (0 : Int).toNat * 3) [.int .i64 el7.W, .int .i64 el7.H, .slice A19 el7.Low.length cp20], RE.rd kInt A19 cp20 el7.Low]) K ?_ ?_
       ·exact ⟨0, hm, ⟨rfl, rfl, rfl, trivial⟩, H⟩
       ·rintro k1 r' w' ⟨y4_1, hm, hA, H⟩
        obtain ⟨r40, rfl⟩ := regen _ hA; clear hA
        obtain ⟨w41, rfl⟩ : ∃ W : World, W = w' := ⟨_, rfl⟩
        cases k1 with
        | zero => exact (none_some hm).elim
        | succ k1 =>
         have hm : m23_l1b K a0 el7 (m23_l1 K a0 el7 k1) y4_1 = some res := hm
         unfold m23_l1b at hm
         obtain ⟨rec1, hrec1⟩ : ∃ f, m23_l1 K a0 el7 k1 = f := ⟨_, rfl⟩
         rw [hrec1] at hm
         refine W_seq ?_
         refine W_seq ?_
         refine W_region ?_
         refine RL_pure (by exact wn0 rfl) (by rfl) (by rfl) (x_move (v := .int .i64 y4_1) (by rfl)) ?_
         refine RL_pure (by exact wn0 rfl) (by rfl) (by rfl) (x_fieldAddr fo54_2 (by rfl)) ?_
         refine RL_pure (by exact wn0 rfl) (by rfl) (by rfl) (x_load (j := 2) (v := .slice A19 el7.Low.length cp20) sc23 (by rfl) (H.cells (i := 1) (by rfl)) (by rfl)) ?_
         refine RL_pure (by exact wn0 rfl) (by rfl) (by rfl) (x_len sl23 (by rfl)) ?_
         refine RL_pure (by exact wn0 rfl) (by rfl) (by rfl) (x_lss (by rfl) (by rfl)) ?_
         refine RL_nil ?_
         refine W_cond (by rfl) (fun hb => ?_) (fun hb => ?_)
         ·have hm := cond_t hb hm
          refine W_skip ?_
          refine W_seq ?_
          refine W_block ?_
          refine W_seq ?_
          refine W_region ?_
          refine RL_pure (by exact wn0 rfl) (by rfl) (by rfl) (x_fieldAddr fo54_2 (by rfl)) ?_
          refine RL_pure (by exact wn0 rfl) (by rfl) (by rfl) (x_load (j := 2) (v := .slice A19 el7.Low.length cp20) sc23 (by rfl) (H.cells (i := 1) (by rfl)) (by rfl)) ?_
          refine RL_pure (by exact wn0 rfl) (by rfl) (by rfl) (x_move (v := .int .i64 y4_1) (by rfl)) ?_
          obtain ⟨el42, h43, h44, he45, hm⟩ := idx_some hm
          obtain ⟨g47, o48, hA46⟩ := (H.rd (i := 2) (by rfl)).addr he45
          refine RL_pure (by exact wn0 rfl) (by rfl) (by rfl) (x_indexAddr sl23 sz3 (by rfl) (by rfl) hA46 h43 h44) ?_
          refine RL_pure (by exact wn0 rfl) (by rfl) (by rfl) (x_load (j := 0) (v := .int .i64 el42) sc3 (by rfl) (Rd.flatAt (n := 1) (H.rd (i := 2) (by rfl)) hA46 he45) (by rfl)) ?_
          refine RL_pure (by exact wn0 rfl) (by rfl) (by rfl) (x_lss (by rfl) (by rfl)) ?_
          refine RL_pure (by exact wn0 rfl) (by rfl) (by rfl) (x_move (v := .bool (decide (el42 < (-2048)))) (by rfl)) ?_
          obtain ⟨b49, hmS, hm⟩ := bind_some hm
          refine RL_cut 7 (fun r' w' => Agr [(62, .bool b49), (1, .pointer (some ⟨b5, 0, none⟩)), (3, .pointer (some ⟨b24, 0, none⟩)), (4, .int .i64 y4_1)] r' ∧ Sep ok w w' [.blk b5 28 [.slice A1 a0.Levels.length cp2], .blk b24 54 [.int .i64 el7.W, .int .i64 el7.H, .slice A19 el7.Low.length cp20]] [RE.rd k_Level A1 cp2 a0.Levels, RE.cells g12 (o13 + (0 : Int).toNat * 3) [.int .i64 el7.W, .int .i64 el7.H, .slice A19 el7.Low.length cp20], RE.rd kInt A19 cp20 el7.Low]) ?_ ?_
          ·cases hbS : (decide (el42 < (-2048)))
           ·have hm := cond_f hbS hmS
            refine RL_pure (by exact wn1 rfl rfl rfl rfl) (by rfl) (by rfl) (x_fieldAddr fo54_2 (by rfl)) ?_
            refine RL_pure (by exact wn1 rfl rfl rfl rfl) (by rfl) (by rfl) (x_load (j := 2) (v := .slice A19 el7.Low.length cp20) sc23 (by rfl) (H.cells (i := 1) (by rfl)) (by rfl)) ?_
            refine RL_pure (by exact wn1 rfl rfl rfl rfl) (by rfl) (by rfl) (x_move (v := .int .i64 y4_1) (by rfl)) ?_
            obtain ⟨el50, h51, h52, he53, hm⟩ := idx_some hm
            obtain ⟨g55, o56, hA54⟩ := (H.rd (i := 2) (by rfl)).addr he53
            refine RL_pure (by exact wn1 rfl rfl rfl rfl) (by rfl) (by rfl) (x_indexAddr sl23 sz3 (by rfl) (by rfl) hA54 h51 h52) ?_
            refine RL_pure (by exact wn1 rfl rfl rfl rfl) (by rfl) (by rfl) (x_load (j := 0) (v := .int .i64 el50) sc3 (by rfl) (Rd.flatAt (n := 1) (H.rd (i := 2) (by rfl)) hA54 he53) (by rfl)) ?_
            refine RL_pure (by exact wn1 rfl rfl rfl rfl) (by rfl) (by rfl) (x_gtr (by rfl) (by rfl)) ?_
            refine RL_pure (by exact wn0 rfl) (by rfl) (by rfl) (x_pick_f (v := .bool (decide (66560 < el50))) (by rfl) (by rfl)) ?_
            refine RL_nil ?_
            exact ⟨⟨congrArg Value.bool (Option.some.inj hm), rfl, rfl, rfl, trivial⟩, H⟩
           ·have hm := cond_t hbS hmS
            refine RL_cons (OpR_off (by exact wn2 rfl rfl rfl rfl) (by rfl) (by rfl) ?_)
            refine RL_cons (OpR_off (by exact wn2 rfl rfl rfl rfl) (by rfl) (by rfl) ?_)
            refine RL_cons (OpR_off (by exact wn2 rfl rfl rfl rfl) (by rfl) (by rfl) ?_)
            refine RL_cons (OpR_off (by exact wn2 rfl rfl rfl rfl) (by rfl) (by rfl) ?_)
            refine RL_cons (OpR_off (by exact wn2 rfl rfl rfl rfl) (by rfl) (by rfl) ?_)
            refine RL_cons (OpR_off (by exact wn2 rfl rfl rfl rfl) (by rfl) (by rfl) ?_)
            refine RL_pure (by exact wn0 rfl) (by rfl) (by rfl) (x_pick_t (v := .bool true) (by rfl) (by rfl)) ?_
            refine RL_nil ?_
            exact ⟨⟨congrArg Value.bool (Option.some.inj hm), rfl, rfl, rfl, trivial⟩, H⟩
          ·rintro r' w' ⟨hA, H⟩
           obtain ⟨r57, rfl⟩ := regen _ hA; clear hA
           obtain ⟨w58, rfl⟩ : ∃ W : World, W = w' := ⟨_, rfl⟩
           show RL _ _ _ _ _ _ _
           refine RL_nil ?_
           refine W_cond (by rfl) (fun hb => ?_) (fun hb => ?_)
           ·have hm := cond_t hb hm
            refine W_seq ?_
            refine W_region ?_
            refine RL_pure (by exact wn0 rfl) (by rfl) (by rfl) (x_assign (v := .int .i64 8) (by rfl)) ?_
            refine RL_nil ?_
            refine W_ret ?_
            obtain rfl := Option.some.inj hm
            exact ⟨[.int .i64 8], (.tmp (by rfl) rfl), rfl, H.none_⟩
           ·have hm := cond_f hb hm
            refine W_skip ?_
            refine W_region ?_
            refine RL_pure (by exact wn0 rfl) (by rfl) (by rfl) (x_move (v := .int .i64 y4_1) (by rfl)) ?_
            obtain ⟨x59, ex59, qx59, ux59, hm⟩ := ck_some hm
            refine RL_pure (by exact wn0 rfl) (by rfl) (by rfl) (x_add (by rfl) (by rfl) ux59) ?_
            refine RL_pure (by exact wn0 rfl) (by rfl) (by rfl) (x_assign (v := .int .i64 x59) (by rfl)) ?_
            refine RL_nil ?_
            subst hrec1
            exact ⟨k1, Nat.lt_succ_self k1, x59, hm, ⟨rfl, rfl, rfl, trivial⟩, H⟩
         ·have hm := cond_f hb hm
          refine W_exit ?_
          refine W_seq ?_
          refine W_seq ?_
          refine W_draw [.take 0, .take 2, .run 1, .run 3, .free 4] (fun wS => Sep ok w wS [.blk b5 28 [.slice A1 a0.Levels.length cp2], .blk b24 54 [.int .i64 el7.W, .int .i64 el7.H, .slice A19 el7.Low.length cp20]] [RE.rd k_Level A1 cp2 a0.Levels, RE.cells g12 (o13 + (0 : Int).toNat * 3) [.int .i64 el7.W, .int .i64 el7.H, .slice A19 el7.Low.length cp20], RE.rd kInt A19 cp20 el7.Low]) [] [4] mixed0 (by kernel_rfl) (by kernel_rfl) (by kernel_rfl) (by rfl) (by exact H.drew) ?_
          obtain ⟨w60, hW⟩ : ∃ W : World, W = { w41 with drawn := w41.drawn + 1 } := ⟨_, rfl⟩
          rw [← hW]
          have H : Sep ok w w60 [.blk b5 28 [.slice A1 a0.Levels.length cp2], .blk b24 54 [.int .i64 el7.W, .int .i64 el7.H, .slice A19 el7.Low.length cp20]] [RE.rd k_Level A1 cp2 a0.Levels, RE.cells g12 (o13 + (0 : Int).toNat * 3) [.int .i64 el7.W, .int .i64 el7.H, .slice A19 el7.Low.length cp20], RE.rd kInt A19 cp20 el7.Low] := by rw [hW]; exact H.drew
          clear hW
          refine PR_take (by rfl) (by rfl) (by rfl) (by exact wn0 rfl) (fun wS (H : Sep ok w wS [.blk b5 28 [.slice A1 a0.Levels.length cp2], .blk b24 54 [.int .i64 el7.W, .int .i64 el7.H, .slice A19 el7.Low.length cp20]] [RE.rd k_Level A1 cp2 a0.Levels, RE.cells g12 (o13 + (0 : Int).toNat * 3) [.int .i64 el7.W, .int .i64 el7.H, .slice A19 el7.Low.length cp20], RE.rd kInt A19 cp20 el7.Low]) => (x_loadA (j := 0) (vs := [.int .i64 el7.W, .int .i64 el7.H, .slice A19 el7.Low.length cp20]) ag54 (by rfl) (H.cells (i := 1) (by rfl)) (by rfl) (by rfl))) ?_
          refine PR_take (by rfl) (by rfl) (by rfl) (by exact wn0 rfl) (fun wS (H : Sep ok w wS [.blk b5 28 [.slice A1 a0.Levels.length cp2], .blk b24 54 [.int .i64 el7.W, .int .i64 el7.H, .slice A19 el7.Low.length cp20]] [RE.rd k_Level A1 cp2 a0.Levels, RE.cells g12 (o13 + (0 : Int).toNat * 3) [.int .i64 el7.W, .int .i64 el7.H, .slice A19 el7.Low.length cp20], RE.rd kInt A19 cp20 el7.Low]) => (x_loadA (j := 0) (vs := [.slice A1 a0.Levels.length cp2]) ag28 (by rfl) (H.cells (i := 0) (by rfl)) (by rfl) (by rfl))) ?_
          obtain ⟨v62, hv61, hm⟩ := bind_some hm
          refine PR_run (by rfl) (O_call (by exact wn0 rfl) (by rfl) (by rfl) (x_callL (by rfl) (args := [.agg #[.int .i64 el7.W, .int .i64 el7.H, .slice A19 el7.Low.length cp20]]) (by rfl) (cf61 _ _)) (c61 (okS ok w [.blk b5 28 [.slice A1 a0.Levels.length cp2], .blk b24 54 [.int .i64 el7.W, .int .i64 el7.H, .slice A19 el7.Low.length cp20]]) K w60 el7 A19 cp20 (H.rd (i := 2) (by rfl)) v62 hv61) ?_)
          rintro e w63 ⟨A64, cp65, rfl, H2⟩
          have H : Sep ok w w63 [.blk b5 28 [.slice A1 a0.Levels.length cp2], .blk b24 54 [.int .i64 el7.W, .int .i64 el7.H, .slice A19 el7.Low.length cp20]] [RE.rd k_Level A1 cp2 a0.Levels, RE.cells g12 (o13 + (0 : Int).toNat * 3) [.int .i64 el7.W, .int .i64 el7.H, .slice A19 el7.Low.length cp20], RE.rd kInt A19 cp20 el7.Low, RE.rd k_Level A64 cp65 v62.Levels] := H.call H2
          clear H2
          refine ⟨_, rfl, (Sep.takeR H 3), ?_⟩
          show PR _ _ _ _ _ _ _ _
          obtain ⟨v68, hv67, hm⟩ := bind_some hm
          refine PR_run (by rfl) (O_call (by exact wn0 rfl) (by rfl) (by rfl) (x_callL (by rfl) (args := [.agg #[.slice A64 v62.Levels.length cp65], .agg #[.slice A1 a0.Levels.length cp2]]) (by rfl) (cf21 _ _)) (c21 okT K w63 v62 A64 cp65 a0 A1 cp2 (H.rd (i := 3) (by rfl)).any (H.rd (i := 0) (by rfl)).any v68 hv67) ?_)
          rintro e w69 ⟨rfl, H2⟩
          have H : Sep ok w w69 [.blk b5 28 [.slice A1 a0.Levels.length cp2], .blk b24 54 [.int .i64 el7.W, .int .i64 el7.H, .slice A19 el7.Low.length cp20]] [RE.rd k_Level A1 cp2 a0.Levels, RE.cells g12 (o13 + (0 : Int).toNat * 3) [.int .i64 el7.W, .int .i64 el7.H, .slice A19 el7.Low.length cp20], RE.rd kInt A19 cp20 el7.Low, RE.rd k_Level A64 cp65 v62.Levels] := H.below H2.base
          clear H2
          refine ⟨_, rfl, (Sep.takeR H 3), ?_⟩
          show PR _ _ _ _ _ _ _ _
          refine PR_free (by rfl) (by rfl) (by rfl) (by exact wn0 rfl) (fun wS => (x_not (by rfl))) ?_
          refine PR_nil ?_
          refine W_cond (by rfl) (fun hb => ?_) (fun hb => ?_)
          ·have hm := cond_t hb hm
           refine W_seq ?_
           refine W_region ?_
           refine RL_pure (by exact wn0 rfl) (by rfl) (by rfl) (x_assign (v := .int .i64 8) (by rfl)) ?_
           refine RL_nil ?_
           refine W_ret ?_
           obtain rfl := Option.some.inj hm
           exact ⟨[.int .i64 8], (.tmp (by rfl) rfl), rfl, H.none_⟩
          ·have hm := cond_f hb hm
           refine W_skip ?_
           refine W_seq ?_
           refine W_region ?_
           refine RL_pure (by exact wn0 rfl) (by rfl) (by rfl) (x_assign (v := .int .i64 0) (by rfl)) ?_
           refine RL_nil ?_
           refine W_ret ?_
           obtain rfl := Option.some.inj hm
           exact ⟨[.int .i64 0], (.tmp (by rfl) rfl), rfl, H.none_⟩
end Go.Proofs.YtobkigllalbkiaaV.M

/- Pyramids, in plain Lean: the document's own: the level behind one, all of them, their comparison, their check. -/
set_option linter.unusedVariables false
set_option linter.unusedSimpArgs false
namespace Go.Proofs.YtobkigllalbkiaaV.M
theorem atL_in {w h x y : Nat} {v : Nat → Nat → Int} (hx : x < w) (hy : y < h) : atL w h v x y = v x y := by unfold atL; rw [if_neg (by omega)]
theorem atL_out {w h x y : Nat} {v : Nat → Nat → Int} (hx : ¬ (x < w ∧ y < h)) : atL w h v x y = 66560 := by unfold atL; rw [if_pos (by omega)]
theorem half_lt {w x : Nat} (hx : x < half w) : 2 * x < w := by unfold half at hx; omega
theorem row_bound {w y : Nat} (hw : w ≤ 64) (hy : y ≤ 200) : y * w ≤ 12800 := Nat.mul_le_mul hy hw
theorem mn_le {a b : Int} (h : a ≤ b) : mn a b = a := by rw [mn_eq]; omega
theorem m111_cell {K w h y x : Nat} {v : Nat → Nat → Int} {rec1 rec2 : List Int → Int → Option S_Level} {L : List Int} (hw : w ≤ 64) (hh : h ≤ 64) (hv : ∀ x y, x < w → y < h → v x y ≤ 66560) (hx : x < half w) (hy : y < half h) (hL : L.length ≤ 100000) :
    m111_l2b K (mkL w h v) (half w : Nat) y rec1 rec2 L x = rec2 (L ++ [nxt w h v x y]) (x + 1 : Nat) := by
  have hx2 := half_lt hx
  have hy2 := half_lt hy
  unfold m111_l2b
  have eW : (mkL w h v).W = (w : Int) := rfl
  have eH : (mkL w h v).H = (h : Int) := rfl
  have b1 : 2 * y * w ≤ 12800 := row_bound hw (by omega)
  have b2 : (2 * y + 1) * w ≤ 12800 := row_bound hw (by omega)
  have e1 : (2 : Int) * (y : Int) = ((2 * y : Nat) : Int) := by push_cast; rfl
  have e2 : ((2 * y : Nat) : Int) * (w : Int) = ((2 * y * w : Nat) : Int) := by push_cast; rfl
  have e3 : (2 : Int) * (x : Int) = ((2 * x : Nat) : Int) := by push_cast; rfl
  have e4 : ((2 * y * w : Nat) : Int) + ((2 * x : Nat) : Int) = ((2 * y * w + 2 * x : Nat) : Int) := by push_cast; rfl
  have e5 : ((2 * x : Nat) : Int) + Int.tmod 1 2 = ((2 * x + 1 : Nat) : Int) := by rw [show Int.tmod 1 2 = 1 from rfl]; push_cast; rfl
  have e6 : ((2 * y : Nat) : Int) + 0 = ((2 * y : Nat) : Int) := by omega
  have e7 : ((2 * x : Nat) : Int) + Int.tmod 2 2 = ((2 * x : Nat) : Int) := by rw [show Int.tmod 2 2 = 0 from rfl]; omega
  have e8 : ((2 * y : Nat) : Int) + 1 = ((2 * y + 1 : Nat) : Int) := by push_cast; rfl
  have e9 : ((2 * y + 1 : Nat) : Int) * (w : Int) = (((2 * y + 1) * w : Nat) : Int) := by push_cast; rfl
  have e10 : ((2 * x : Nat) : Int) + Int.tmod 3 2 = ((2 * x + 1 : Nat) : Int) := by rw [show Int.tmod 3 2 = 1 from rfl]; push_cast; rfl
  have e11 : ((2 * y * w : Nat) : Int) + ((2 * x + 1 : Nat) : Int) = ((2 * y * w + (2 * x + 1) : Nat) : Int) := by push_cast; rfl
  have e12 : (((2 * y + 1) * w : Nat) : Int) + ((2 * x : Nat) : Int) = (((2 * y + 1) * w + 2 * x : Nat) : Int) := by push_cast; rfl
  have e13 : (((2 * y + 1) * w : Nat) : Int) + ((2 * x + 1 : Nat) : Int) = (((2 * y + 1) * w + (2 * x + 1) : Nat) : Int) := by push_cast; rfl
  have t1 : Int.tdiv 1 2 = 0 := rfl
  have t2 : Int.tdiv 2 2 = 1 := rfl
  have t3 : Int.tdiv 3 2 = 1 := rfl
  have c0 : ∀ {α : Type} (k : Int → Option α), ck (0 : Int) k = k 0 := fun k => ck_in (by omega) (by omega)
  have c1 : ∀ {α : Type} (k : Int → Option α), ck (1 : Int) k = k 1 := fun k => ck_in (by omega) (by omega)
  have c2 : ∀ {α : Type} (k : Int → Option α), ck ((2 * y : Nat) : Int) k = k ((2 * y : Nat) : Int) := fun k => ck_nat (by omega)
  have c3 : ∀ {α : Type} (k : Int → Option α), ck ((2 * y * w : Nat) : Int) k = k ((2 * y * w : Nat) : Int) := fun k => ck_nat (by omega)
  have c4 : ∀ {α : Type} (k : Int → Option α), ck ((2 * x : Nat) : Int) k = k ((2 * x : Nat) : Int) := fun k => ck_nat (by omega)
  have c5 : ∀ {α : Type} (k : Int → Option α), ck ((2 * y * w + 2 * x : Nat) : Int) k = k ((2 * y * w + 2 * x : Nat) : Int) := fun k => ck_nat (by omega)
  have c6 : ∀ {α : Type} (k : Int → Option α), ck ((2 * x + 1 : Nat) : Int) k = k ((2 * x + 1 : Nat) : Int) := fun k => ck_nat (by omega)
  have c7 : ∀ {α : Type} (k : Int → Option α), ck ((2 * y + 1 : Nat) : Int) k = k ((2 * y + 1 : Nat) : Int) := fun k => ck_nat (by omega)
  have c8 : ∀ {α : Type} (k : Int → Option α), ck ((2 * y * w + (2 * x + 1) : Nat) : Int) k = k ((2 * y * w + (2 * x + 1) : Nat) : Int) := fun k => ck_nat (by omega)
  have c9 : ∀ {α : Type} (k : Int → Option α), ck (((2 * y + 1) * w : Nat) : Int) k = k (((2 * y + 1) * w : Nat) : Int) := fun k => ck_nat (by omega)
  have c10 : ∀ {α : Type} (k : Int → Option α), ck (((2 * y + 1) * w + 2 * x : Nat) : Int) k = k (((2 * y + 1) * w + 2 * x : Nat) : Int) := fun k => ck_nat (by omega)
  have c11 : ∀ {α : Type} (k : Int → Option α), ck (((2 * y + 1) * w + (2 * x + 1) : Nat) : Int) k = k (((2 * y + 1) * w + (2 * x + 1) : Nat) : Int) := fun k => ck_nat (by omega)
  have c12 : ∀ {α : Type} (k : Int → Option α), ck ((x : Int) + 1) k = k ((x + 1 : Nat) : Int) := fun k => ck_in (by omega) (by omega)
  have ap : ∀ (z : Int) (k : List Int → Option S_Level), apd 8 L z k = k (L ++ [z]) := fun z k => apd_in (by omega)
  have h0 : (x : Int) < ((half w : Nat) : Int) := by omega
  have d1 : decide ((x : Int) < ((half w : Nat) : Int)) = true := decide_eq_true h0
  have dx0 : decide (((2 * x : Nat) : Int) < (w : Int)) = true := decide_eq_true (by omega)
  have dy0 : decide (((2 * y : Nat) : Int) < (h : Int)) = true := decide_eq_true (by omega)
  have g0 : ∀ {β : Type} (k : Int → Option β), idx (mkL w h v).Low ((2 * y * w + 2 * x : Nat) : Int) k = k (v (2 * x) (2 * y)) := fun k => idx_nat (mkL_get hx2 hy2)
  have v0 := hv _ _ hx2 hy2
  simp only [eW, eH, d1, cond_true, e1, e2, e3, e4, e5, e7, e10, e11, e12, e13, t1, t2, t3, c0, c1, c2, c3, c4, c5, c6, c7, e6, e8, e9, g0, dx0, dy0]
  have ne : nxt w h v x y = mn (mn (mn (v (2 * x) (2 * y)) (atL w h v (2 * x + 1) (2 * y))) (atL w h v (2 * x) (2 * y + 1))) (atL w h v (2 * x + 1) (2 * y + 1)) := by unfold nxt; rw [atL_in hx2 hy2]
  by_cases hX : 2 * x + 1 < w
  · have dx1 : decide (((2 * x + 1 : Nat) : Int) < (w : Int)) = true := decide_eq_true (by omega)
    have g1 : ∀ {β : Type} (k : Int → Option β), idx (mkL w h v).Low ((2 * y * w + (2 * x + 1) : Nat) : Int) k = k (v (2 * x + 1) (2 * y)) := fun k => idx_nat (mkL_get hX hy2)
    have v1 := hv _ _ hX hy2
    have a1 : atL w h v (2 * x + 1) (2 * y) = v (2 * x + 1) (2 * y) := atL_in hX hy2
    simp only [dx1, cond_true, Option.bind_some, c8, g1, e11]
    by_cases hY : 2 * y + 1 < h
    · have dy1 : decide (((2 * y + 1 : Nat) : Int) < (h : Int)) = true := decide_eq_true (by omega)
      have g2 : ∀ {β : Type} (k : Int → Option β), idx (mkL w h v).Low (((2 * y + 1) * w + 2 * x : Nat) : Int) k = k (v (2 * x) (2 * y + 1)) := fun k => idx_nat (mkL_get hx2 hY)
      have g3 : ∀ {β : Type} (k : Int → Option β), idx (mkL w h v).Low (((2 * y + 1) * w + (2 * x + 1) : Nat) : Int) k = k (v (2 * x + 1) (2 * y + 1)) := fun k => idx_nat (mkL_get hX hY)
      have a2 : atL w h v (2 * x) (2 * y + 1) = v (2 * x) (2 * y + 1) := atL_in hx2 hY
      have a3 : atL w h v (2 * x + 1) (2 * y + 1) = v (2 * x + 1) (2 * y + 1) := atL_in hX hY
      simp only [dy1, cond_true, Option.bind_some, c9, c10, c11, e12, e13, g2, g3, ap, c12]
      rw [ne, a1, a2, a3]
    · have dy1 : decide (((2 * y + 1 : Nat) : Int) < (h : Int)) = false := decide_eq_false (by omega)
      have a2 : atL w h v (2 * x) (2 * y + 1) = 66560 := atL_out (by omega)
      have a3 : atL w h v (2 * x + 1) (2 * y + 1) = 66560 := atL_out (by omega)
      simp only [dy1, cond_false, Option.bind_some, ap, c12]
      have hm : mn (v (2 * x) (2 * y)) (v (2 * x + 1) (2 * y)) ≤ 66560 := by rw [mn_eq]; omega
      rw [ne, a1, a2, a3, mn_le hm, mn_le hm]
  · have dx1 : decide (((2 * x + 1 : Nat) : Int) < (w : Int)) = false := decide_eq_false (by omega)
    have a1 : atL w h v (2 * x + 1) (2 * y) = 66560 := atL_out (by omega)
    have a3 : atL w h v (2 * x + 1) (2 * y + 1) = 66560 := atL_out (by omega)
    simp only [dx1, cond_false, Option.bind_some]
    by_cases hY : 2 * y + 1 < h
    · have dy1 : decide (((2 * y + 1 : Nat) : Int) < (h : Int)) = true := decide_eq_true (by omega)
      have g2 : ∀ {β : Type} (k : Int → Option β), idx (mkL w h v).Low (((2 * y + 1) * w + 2 * x : Nat) : Int) k = k (v (2 * x) (2 * y + 1)) := fun k => idx_nat (mkL_get hx2 hY)
      have a2 : atL w h v (2 * x) (2 * y + 1) = v (2 * x) (2 * y + 1) := atL_in hx2 hY
      simp only [dy1, cond_true, Option.bind_some, c9, c10, e12, g2, ap, c12]
      have hm : mn (v (2 * x) (2 * y)) (v (2 * x) (2 * y + 1)) ≤ 66560 := by rw [mn_eq]; omega
      rw [ne, a1, a2, a3, mn_le v0, mn_le hm]
    · have dy1 : decide (((2 * y + 1 : Nat) : Int) < (h : Int)) = false := decide_eq_false (by omega)
      have a2 : atL w h v (2 * x) (2 * y + 1) = 66560 := atL_out (by omega)
      simp only [dy1, cond_false, Option.bind_some, ap, c12]
      rw [ne, a1, a2, a3, mn_le v0, mn_le v0, mn_le v0]
/-- The first i numbers of the level behind. -/
def pre (a i : Nat) (w h : Nat) (v : Nat → Nat → Int) : List Int := (List.range i).map fun j => nxt w h v (j % a) (j / a)
theorem pre_succ {a i w h : Nat} {v : Nat → Nat → Int} : pre a (i + 1) w h v = pre a i w h v ++ [nxt w h v (i % a) (i / a)] := by
  unfold pre; rw [List.range_succ, List.map_append]; rfl
theorem m111_row {K w h y : Nat} {v : Nat → Nat → Int} {rec1 : List Int → Int → Option S_Level} (hw : w ≤ 64) (hh : h ≤ 64) (hv : ∀ x y, x < w → y < h → v x y ≤ 66560) (hy : y < half h) :
    ∀ (k x : Nat), x ≤ half w → half w < x + k → m111_l2 K (mkL w h v) (half w : Nat) y rec1 k (pre (half w) (y * half w + x) w h v) x = rec1 (pre (half w) ((y + 1) * half w) w h v) (y + 1 : Nat) := by
  intro k
  induction k with
  | zero => intro x h1 h2; omega
  | succ k ih =>
    intro x h1 h2
    show m111_l2b K (mkL w h v) (half w : Nat) y rec1 (m111_l2 K (mkL w h v) (half w : Nat) y rec1 k) _ x = _
    by_cases hx : x < half w
    · have hyw : y * half w ≤ 12800 := row_bound (half_le64 hw) (by have := half_le64 hh; omega)
      have h64 := half_le64 hw
      rw [m111_cell hw hh hv hx hy (by unfold pre; simp; omega)]
      have := ih (x + 1) (by omega) (by omega)
      rw [← this, ← Nat.add_assoc, pre_succ, place_mod hx, place_div hx]
    · obtain rfl : x = half w := by omega
      unfold m111_l2b
      have h3 : ¬ ((half w : Nat) : Int) < ((half w : Nat) : Int) := by omega
      have hh64 := half_le64 hh
      rw [decide_eq_false h3, cond_false, cast_succ, ck_nat (by omega), Nat.add_mul, Nat.one_mul]
theorem m111_rows {K w h : Nat} {v : Nat → Nat → Int} (hK : 5000 ≤ K) (hw : w ≤ 64) (hh : h ≤ 64) (hv : ∀ x y, x < w → y < h → v x y ≤ 66560) :
    ∀ (k y : Nat), y ≤ half h → half h < y + k → m111_l1 K (mkL w h v) (half w : Nat) (half h : Nat) k (pre (half w) (y * half w) w h v) y = some (mkL (half w) (half h) (nxt w h v)) := by
  intro k
  induction k with
  | zero => intro y h1 h2; omega
  | succ k ih =>
    intro y h1 h2
    show m111_l1b K (mkL w h v) (half w : Nat) (half h : Nat) (m111_l1 K (mkL w h v) (half w : Nat) (half h : Nat) k) _ y = _
    unfold m111_l1b
    by_cases hy : y < half h
    · have h3 : (y : Int) < ((half h : Nat) : Int) := by omega
      have h64 := half_le64 hw
      rw [decide_eq_true h3, cond_true]
      have := m111_row (K := K) (rec1 := m111_l1 K (mkL w h v) (half w : Nat) (half h : Nat) k) hw hh hv hy K 0 (Nat.zero_le _) (by omega)
      rw [Nat.add_zero] at this
      have e0 : ((0 : Nat) : Int) = 0 := rfl
      rw [e0] at this
      rw [this]
      exact ih (y + 1) (by omega) (by omega)
    · obtain rfl : y = half h := by omega
      have h3 : ¬ ((half h : Nat) : Int) < ((half h : Nat) : Int) := by omega
      rw [decide_eq_false h3, cond_false]
      unfold mkL pre
      rw [Nat.mul_comm]
theorem m111_eq {K w h : Nat} {v : Nat → Nat → Int} (hK : 5000 ≤ K) (hw : w ≤ 64) (hh : h ≤ 64) (hv : ∀ x y, x < w → y < h → v x y ≤ 66560) : m111 K (mkL w h v) = some (mkL (half w) (half h) (nxt w h v)) := by
  unfold m111
  have e2 : (mkL w h v).W + 1 = ((w + 1 : Nat) : Int) := by show (w : Int) + 1 = _; push_cast; rfl
  have e3 : (mkL w h v).H + 1 = ((h + 1 : Nat) : Int) := by show (h : Int) + 1 = _; push_cast; rfl
  have hw2 := half_le64 hw
  have hh2 := half_le64 hh
  rw [e2, ck_nat (by omega), tdiv_half, ck_nat (by omega), e3, ck_nat (by omega), tdiv_half, ck_nat (by omega)]
  have := m111_rows hK hw hh hv K 0 (Nat.zero_le _) (by omega)
  rw [Nat.zero_mul] at this
  exact this
theorem nxt_hi {w h : Nat} {v : Nat → Nat → Int} (hv : ∀ x y, x < w → y < h → v x y ≤ 66560) : ∀ x y, x < half w → y < half h → nxt w h v x y ≤ 66560 := by
  intro x y hx hy
  have := hv _ _ (half_lt hx) (half_lt hy)
  unfold nxt
  rw [atL_in (half_lt hx) (half_lt hy), mn_eq, mn_eq, mn_eq]; omega
theorem m61_outer {K : Nat} (hK : 5000 ≤ K) : ∀ (n w h : Nat) (v : Nat → Nat → Int) (row : List S_Level) (k : Nat), w ≤ 2 ^ n → h ≤ 2 ^ n → w ≤ 64 → h ≤ 64 → 1 ≤ w → 1 ≤ h → (∀ x y, x < w → y < h → v x y ≤ 66560) → n < k → row.length + n ≤ 100 →
    m61_l1 K k row w h (mkL w h v).Low = some ⟨row ++ lvls n w h v⟩ := by
  have hs := fun (w h : Nat) (v : Nat → Nat → Int) => @m111_eq K w h v hK
  clear hK
  intro n w h v row k
  induction k generalizing n w h v row with
  | zero => intro _ _ _ _ _ _ _ hk _; exact absurd hk (Nat.not_lt_zero _)
  | succ k ihk =>
    intro hw hh hw64 hh64 hw1 hh1 hv hk hrow
    show m61_l1b K (m61_l1 K k) row w h (mkL w h v).Low = _
    unfold m61_l1b
    have e8 : (⟨(w : Int), (h : Int), (mkL w h v).Low⟩ : S_Level) = mkL w h v := rfl
    have hprod : w * h ≤ 1 ↔ w ≤ 1 ∧ h ≤ 1 := by
      constructor
      · intro h1
        have a := Nat.mul_le_mul_left w hh1
        have b := Nat.mul_le_mul_right h hw1
        omega
      · rintro ⟨h1, h2⟩
        have : w = 1 := by omega
        have : h = 1 := by omega
        subst_vars; simp
    by_cases h1 : w * h ≤ 1
    · obtain ⟨q1, q2⟩ := hprod.1 h1
      have d1 : ¬ (1 : Int) < (w : Int) := by omega
      have d2 : ¬ (1 : Int) < (h : Int) := by omega
      rw [decide_eq_false d1, cond_false, decide_eq_false d2, Option.bind_some, cond_false]
      cases n with
      | zero => simp [lvls]
      | succ n => simp [lvls, h1]
    · have hb : (bif decide ((1 : Int) < (w : Int)) then some true else some (decide ((1 : Int) < (h : Int)))) = some true := by
        by_cases d1 : (1 : Int) < (w : Int)
        · rw [decide_eq_true d1]; rfl
        · have d2 : (1 : Int) < (h : Int) := by
            have : ¬ (w ≤ 1 ∧ h ≤ 1) := fun q => h1 (hprod.2 q)
            omega
          rw [decide_eq_false d1, decide_eq_true d2]; rfl
      rw [hb, Option.bind_some, cond_true, e8, hs w h v hw64 hh64 hv, Option.bind_some]
      cases n with
      | zero =>
        have : w = 1 := by simp at hw; omega
        have : h = 1 := by simp at hh; omega
        subst_vars; simp at h1
      | succ n =>
        rw [apd_in (Nat.le_trans (Nat.mul_le_mul_right 40 (show row.length + 1 ≤ 101 by omega)) (by decide))]
        have ih := ihk n (half w) (half h) (nxt w h v) (row ++ [mkL (half w) (half h) (nxt w h v)]) (half_le hw) (half_le hh) (half_le64 hw64) (half_le64 hh64) (half_pos hw1) (half_pos hh1) (nxt_hi hv) (by omega) (by simp; omega)
        show m61_l1 K k _ ((half w : Nat) : Int) ((half h : Nat) : Int) (mkL (half w) (half h) (nxt w h v)).Low = _
        rw [ih]
        simp [lvls, h1]
theorem m61_eq {K w h : Nat} {v : Nat → Nat → Int} (hK : 5000 ≤ K) (d : Dom w h v) : m61 K (mkL w h v) = some ⟨pyr w h v⟩ := by
  unfold m61
  exact m61_outer hK 6 w h v [mkL w h v] K (by have := d.w64; simpa using this) (by have := d.h64; simpa using this) d.w64 d.h64 d.w1 d.h1 d.hi (by omega) (by simp)
/-! ### Same -/
theorem m21_l2_refl {K : Nat} {y : Int} {rec1 : Int → Option Bool} {l : S_Level} (hy : -1000000 ≤ y ∧ y ≤ 1000000) (hs : l.Low.length ≤ 1000000) : ∀ (k i : Nat), i ≤ l.Low.length → l.Low.length < i + k → m21_l2 K y rec1 l l k i = rec1 (y + 1) := by
  intro k
  induction k with
  | zero => intro i h1 h2; omega
  | succ k ih =>
    intro i h1 h2
    show m21_l2b K y rec1 l l (m21_l2 K y rec1 l l k) i = _
    unfold m21_l2b
    by_cases hi : i < l.Low.length
    · have h3 : (i : Int) < (l.Low.length : Int) := by omega
      have ga : l.Low[i]? = some l.Low[i] := List.getElem?_eq_getElem hi
      rw [decide_eq_true h3, cond_true, idx_nat ga, idx_nat ga, bne_self_eq_false, cond_false, cast_succ, ck_in (by omega) (by omega)]
      exact ih (i + 1) (by omega) (by omega)
    · have h3 : ¬ (i : Int) < (l.Low.length : Int) := by omega
      rw [decide_eq_false h3, cond_false, ck_in (by omega) (by omega)]
theorem m21_refl {K : Nat} {p : S_Pyramid} (hs : p.Levels.length ≤ 1000) (hK : 1000 < K) (hin : ∀ x ∈ p.Levels, x.Low.length ≤ 1000000 ∧ x.Low.length < K) : m21 K p p = some true := by
  unfold m21
  rw [bne_self_eq_false, cond_false]
  have key : ∀ (k i : Nat), i ≤ p.Levels.length → p.Levels.length < i + k → m21_l1 K p p k i = some true := by
    intro k
    induction k with
    | zero => intro i h1 h2; omega
    | succ k ih =>
      intro i h1 h2
      show m21_l1b K p p (m21_l1 K p p k) i = _
      unfold m21_l1b
      by_cases hi : i < p.Levels.length
      · have h3 : (i : Int) < (p.Levels.length : Int) := by omega
        have ga : p.Levels[i]? = some p.Levels[i] := List.getElem?_eq_getElem hi
        obtain ⟨q1, q2⟩ := hin _ (List.getElem_mem hi)
        rw [decide_eq_true h3, cond_true, idx_nat ga, idx_nat ga]
        simp only [bne_self_eq_false, cond_false, Option.bind_some]
        have := m21_l2_refl (K := K) (y := (i : Int)) (rec1 := m21_l1 K p p k) (l := p.Levels[i]) (by omega) q1 K 0 (Nat.zero_le _) (by omega)
        have e0 : ((0 : Nat) : Int) = 0 := rfl
        rw [e0] at this
        rw [this, cast_succ]
        exact ih (i + 1) (by omega) (by omega)
      · have h3 : ¬ (i : Int) < (p.Levels.length : Int) := by omega
        rw [decide_eq_false h3, cond_false]
  exact key K 0 (Nat.zero_le _) (by omega)
/-- The document's check of a built pyramid. -/
theorem m23_pyr {K w h : Nat} {v : Nat → Nat → Int} (hK : 10000 ≤ K) (d : Dom w h v) : m23 K ⟨pyr w h v⟩ = some 0 := by
  have hll := lvls_len 6 w h v
  have hsame : m21 K ⟨pyr w h v⟩ ⟨pyr w h v⟩ = some true := m21_refl (by show (pyr w h v).length ≤ 1000; rw [pyr_len]; omega) (by omega) fun x hx => by have := pyr_mem d hx; omega
  have hbuilt := m61_eq (K := K) (by omega) d
  obtain ⟨p1, p2⟩ := d.prod
  have loop : ∀ (k i : Nat), i ≤ w * h → w * h < i + k → m23_l1 K ⟨pyr w h v⟩ (mkL w h v) k i = some 0 := by
    intro k
    induction k with
    | zero => intro i h1 h2; omega
    | succ k ih =>
      intro i h1 h2
      show m23_l1b K ⟨pyr w h v⟩ (mkL w h v) (m23_l1 K ⟨pyr w h v⟩ (mkL w h v) k) i = _
      unfold m23_l1b
      rw [mkL_len]
      by_cases hi : i < w * h
      · have h3 : (i : Int) < ((w * h : Nat) : Int) := by omega
        have hw1 := d.w1
        obtain ⟨s1, s2, s3⟩ := split_place (by omega) hi
        have g := mkL_get (v := v) s1 s2
        rw [s3] at g
        have r1 : ¬ v (i % w) (i / w) < -2048 := by have := d.lo _ _ s1 s2; omega
        have r2 : ¬ 66560 < v (i % w) (i / w) := by have := d.hi _ _ s1 s2; omega
        rw [decide_eq_true h3, cond_true, idx_nat g, idx_nat g, decide_eq_false r1, cond_false, decide_eq_false r2, Option.bind_some, cond_false, cast_succ, ck_nat (by omega)]
        exact ih (i + 1) (by omega) (by omega)
      · have h3 : ¬ (i : Int) < ((w * h : Nat) : Int) := by omega
        rw [decide_eq_false h3, cond_false, hbuilt, Option.bind_some, hsame, Option.bind_some]; rfl
  unfold m23
  have c0 : ((((⟨pyr w h v⟩ : S_Pyramid).Levels.length : Nat) : Int) == 0) = false := by
    show (((pyr w h v).length : Int) == 0) = false
    rw [pyr_len]; simp; omega
  have g0 : (⟨pyr w h v⟩ : S_Pyramid).Levels[0]? = some (mkL w h v) := rfl
  have hW : (mkL w h v).W = (w : Int) := rfl
  have hH : (mkL w h v).H = (h : Int) := rfl
  have hw1 := d.w1
  have hw64 := d.w64
  have hh1 := d.h1
  have hh64 := d.h64
  have e1 : (w : Int) * (h : Int) = ((w * h : Nat) : Int) := by push_cast; rfl
  rw [c0, cond_false, idx_in (i := 0) (by omega) g0, hW, hH, mkL_len, e1, ck_nat (by omega), bne_self_eq_false, decide_eq_false (show ¬ (w : Int) < 1 by omega), decide_eq_false (show ¬ (64 : Int) < (w : Int) by omega), decide_eq_false (show ¬ (h : Int) < 1 by omega), decide_eq_false (show ¬ (64 : Int) < (h : Int) by omega)]
  simp only [cond_false, Option.bind_some]
  exact loop K 0 (Nat.zero_le _) (by omega)
end Go.Proofs.YtobkigllalbkiaaV.M

/- A plain Lean function that answers as the Go function does (none: not told), and the proof that a call answers so. Written by program. -/
set_option linter.unusedVariables false
namespace Go.Proofs.YtobkigllalbkiaaV.M
open Go.RowKit Go.Proofs.YtobkigllalbkiaaV
/-- diorama/dioramaref25.Great -/
def m11 (K : Nat) (a0 : S_Frame) : Option (Bool) :=
 ((bif (decide (5000 < (a0.Color.length : Int))) then some true else some (decide (5000 < (a0.Depth.length : Int)))).bind fun b19 => ((bif b19 then some true else some (decide (5000 < (a0.Item.length : Int)))).bind fun b22 => ((bif b22 then some true else some (decide (5000 < (a0.Tri.length : Int)))).bind fun b25 => some b25)))
set_option maxRecDepth 100000 in
set_option maxHeartbeats 4000000 in
theorem c11 (ok : Okp) (K : Nat) (w : World) (a0 : S_Frame) (A1 : Option Addr) (cp2 : Nat) (A5 : Option Addr) (cp6 : Nat) (A9 : Option Addr) (cp10 : Nat) (A13 : Option Addr) (cp14 : Nat) (hR3 : Rd k_Ar4_Int w ok A1 cp2 a0.Color) (hR7 : Rd kInt w ok A5 cp6 a0.Depth) (hR11 : Rd kInt w ok A9 cp10 a0.Item) (hR15 : Rd kInt w ok A13 cp14 a0.Tri) (res : Bool) (hm : m11 K a0 = some res) :
  Calls Try.prog 11 #[.agg #[.int .i64 a0.W, .int .i64 a0.H, .slice A1 a0.Color.length cp2, .slice A5 a0.Depth.length cp6, .slice A9 a0.Item.length cp10, .slice A13 a0.Tri.length cp14]] w (fun e w' => e = .returned (tup [.bool res]) ∧ Sep ok w w' [] []) := by
 refine calls_W (args := [.agg #[.int .i64 a0.W, .int .i64 a0.H, .slice A1 a0.Color.length cp2, .slice A5 a0.Depth.length cp6, .slice A9 a0.Item.length cp10, .slice A13 a0.Tri.length cp14]]) Try.func11 rfl Try.ntmps11 Try.results11 rfl fun r hr => ?_
 obtain ⟨r1, rfl⟩ := regen (r := r) [(0, .agg #[.int .i64 a0.W, .int .i64 a0.H, .slice A1 a0.Color.length cp2, .slice A5 a0.Depth.length cp6, .slice A9 a0.Item.length cp10, .slice A13 a0.Tri.length cp14])] ⟨hr 0 _ rfl, trivial⟩
 have H : Sep ok w w [] [RE.rd k_Ar4_Int A1 cp2 a0.Color, RE.rd kInt A5 cp6 a0.Depth, RE.rd kInt A9 cp10 a0.Item, RE.rd kInt A13 cp14 a0.Tri] := Sep.arg (Sep.arg (Sep.arg (Sep.arg (Sep.start ok w) (re := RE.rd k_Ar4_Int A1 cp2 a0.Color) rfl rfl hR3) (re := RE.rd kInt A5 cp6 a0.Depth) rfl rfl hR7) (re := RE.rd kInt A9 cp10 a0.Item) rfl rfl hR11) (re := RE.rd kInt A13 cp14 a0.Tri) rfl rfl hR15
 unfold m11 at hm
 refine W_seq ?_
 refine W_region ?_
 refine RL_cons (O_box (by exact wn0 rfl) (by rfl) (by rfl) (by rfl) H (fun w18 b17 (H : Sep ok w w18 [.blk b17 25 [.int .i64 a0.W, .int .i64 a0.H, .slice A1 a0.Color.length cp2, .slice A5 a0.Depth.length cp6, .slice A9 a0.Item.length cp10, .slice A13 a0.Tri.length cp14]] [RE.rd k_Ar4_Int A1 cp2 a0.Color, RE.rd kInt A5 cp6 a0.Depth, RE.rd kInt A9 cp10 a0.Item, RE.rd kInt A13 cp14 a0.Tri]) => ?_))
 refine RL_pure (by exact wn0 rfl) (by rfl) (by rfl) (x_assign (v := .bool false) (by rfl)) ?_
 refine RL_nil ?_
 refine W_seq ?_
 refine W_region ?_
 refine RL_pure (by exact wn0 rfl) (by rfl) (by rfl) (x_fieldAddr fo25_2 (by rfl)) ?_
 refine RL_pure (by exact wn0 rfl) (by rfl) (by rfl) (x_load (j := 2) (v := .slice A1 a0.Color.length cp2) sc22 (by rfl) (H.cells (i := 0) (by rfl)) (by rfl)) ?_
 refine RL_pure (by exact wn0 rfl) (by rfl) (by rfl) (x_len sl22 (by rfl)) ?_
 refine RL_pure (by exact wn0 rfl) (by rfl) (by rfl) (x_gtr (by rfl) (by rfl)) ?_
 refine RL_pure (by exact wn0 rfl) (by rfl) (by rfl) (x_move (v := .bool (decide (5000 < (a0.Color.length : Int)))) (by rfl)) ?_
 obtain ⟨b19, hmS, hm⟩ := bind_some hm
 refine RL_cut 5 (fun r' w' => Agr [(12, .bool b19), (1, .pointer (some ⟨b17, 0, none⟩))] r' ∧ Sep ok w w' [.blk b17 25 [.int .i64 a0.W, .int .i64 a0.H, .slice A1 a0.Color.length cp2, .slice A5 a0.Depth.length cp6, .slice A9 a0.Item.length cp10, .slice A13 a0.Tri.length cp14]] [RE.rd k_Ar4_Int A1 cp2 a0.Color, RE.rd kInt A5 cp6 a0.Depth, RE.rd kInt A9 cp10 a0.Item, RE.rd kInt A13 cp14 a0.Tri]) ?_ ?_
 ·cases hbS : (decide (5000 < (a0.Color.length : Int)))
  ·have hm := cond_f hbS hmS
   refine RL_pure (by exact wn1 rfl rfl rfl rfl) (by rfl) (by rfl) (x_fieldAddr fo25_3 (by rfl)) ?_
   refine RL_pure (by exact wn1 rfl rfl rfl rfl) (by rfl) (by rfl) (x_load (j := 3) (v := .slice A5 a0.Depth.length cp6) sc23 (by rfl) (H.cells (i := 0) (by rfl)) (by rfl)) ?_
   refine RL_pure (by exact wn1 rfl rfl rfl rfl) (by rfl) (by rfl) (x_len sl23 (by rfl)) ?_
   refine RL_pure (by exact wn1 rfl rfl rfl rfl) (by rfl) (by rfl) (x_gtr (by rfl) (by rfl)) ?_
   refine RL_pure (by exact wn0 rfl) (by rfl) (by rfl) (x_pick_f (v := .bool (decide (5000 < (a0.Depth.length : Int)))) (by rfl) (by rfl)) ?_
   refine RL_nil ?_
   exact ⟨⟨congrArg Value.bool (Option.some.inj hm), rfl, trivial⟩, H⟩
  ·have hm := cond_t hbS hmS
   refine RL_cons (OpR_off (by exact wn2 rfl rfl rfl rfl) (by rfl) (by rfl) ?_)
   refine RL_cons (OpR_off (by exact wn2 rfl rfl rfl rfl) (by rfl) (by rfl) ?_)
   refine RL_cons (OpR_off (by exact wn2 rfl rfl rfl rfl) (by rfl) (by rfl) ?_)
   refine RL_cons (OpR_off (by exact wn2 rfl rfl rfl rfl) (by rfl) (by rfl) ?_)
   refine RL_pure (by exact wn0 rfl) (by rfl) (by rfl) (x_pick_t (v := .bool true) (by rfl) (by rfl)) ?_
   refine RL_nil ?_
   exact ⟨⟨congrArg Value.bool (Option.some.inj hm), rfl, trivial⟩, H⟩
 ·rintro r' w' ⟨hA, H⟩
  obtain ⟨r20, rfl⟩ := regen _ hA; clear hA
  obtain ⟨w21, rfl⟩ : ∃ W : World, W = w' := ⟨_, rfl⟩
  show RL _ _ _ _ _ _ _
  refine RL_pure (by exact wn0 rfl) (by rfl) (by rfl) (x_move (v := .bool b19) (by rfl)) ?_
  obtain ⟨b22, hmS, hm⟩ := bind_some hm
  refine RL_cut 5 (fun r' w' => Agr [(18, .bool b22), (1, .pointer (some ⟨b17, 0, none⟩))] r' ∧ Sep ok w w' [.blk b17 25 [.int .i64 a0.W, .int .i64 a0.H, .slice A1 a0.Color.length cp2, .slice A5 a0.Depth.length cp6, .slice A9 a0.Item.length cp10, .slice A13 a0.Tri.length cp14]] [RE.rd k_Ar4_Int A1 cp2 a0.Color, RE.rd kInt A5 cp6 a0.Depth, RE.rd kInt A9 cp10 a0.Item, RE.rd kInt A13 cp14 a0.Tri]) ?_ ?_
  ·cases hbS : b19
   ·have hm := cond_f hbS hmS
    refine RL_pure (by exact wn1 rfl rfl rfl rfl) (by rfl) (by rfl) (x_fieldAddr fo25_4 (by rfl)) ?_
    refine RL_pure (by exact wn1 rfl rfl rfl rfl) (by rfl) (by rfl) (x_load (j := 4) (v := .slice A9 a0.Item.length cp10) sc23 (by rfl) (H.cells (i := 0) (by rfl)) (by rfl)) ?_
    refine RL_pure (by exact wn1 rfl rfl rfl rfl) (by rfl) (by rfl) (x_len sl23 (by rfl)) ?_
    refine RL_pure (by exact wn1 rfl rfl rfl rfl) (by rfl) (by rfl) (x_gtr (by rfl) (by rfl)) ?_
    refine RL_pure (by exact wn0 rfl) (by rfl) (by rfl) (x_pick_f (v := .bool (decide (5000 < (a0.Item.length : Int)))) (by rfl) (by rfl)) ?_
    refine RL_nil ?_
    exact ⟨⟨congrArg Value.bool (Option.some.inj hm), rfl, trivial⟩, H⟩
   ·have hm := cond_t hbS hmS
    refine RL_cons (OpR_off (by exact wn2 rfl rfl rfl rfl) (by rfl) (by rfl) ?_)
    refine RL_cons (OpR_off (by exact wn2 rfl rfl rfl rfl) (by rfl) (by rfl) ?_)
    refine RL_cons (OpR_off (by exact wn2 rfl rfl rfl rfl) (by rfl) (by rfl) ?_)
    refine RL_cons (OpR_off (by exact wn2 rfl rfl rfl rfl) (by rfl) (by rfl) ?_)
    refine RL_pure (by exact wn0 rfl) (by rfl) (by rfl) (x_pick_t (v := .bool true) (by rfl) (by rfl)) ?_
    refine RL_nil ?_
    exact ⟨⟨congrArg Value.bool (Option.some.inj hm), rfl, trivial⟩, H⟩
  ·rintro r' w' ⟨hA, H⟩
   obtain ⟨r23, rfl⟩ := regen _ hA; clear hA
   obtain ⟨w24, rfl⟩ : ∃ W : World, W = w' := ⟨_, rfl⟩
   show RL _ _ _ _ _ _ _
   refine RL_pure (by exact wn0 rfl) (by rfl) (by rfl) (x_move (v := .bool b22) (by rfl)) ?_
   obtain ⟨b25, hmS, hm⟩ := bind_some hm
   refine RL_cut 5 (fun r' w' => Agr [(24, .bool b25)] r' ∧ Sep ok w w' [.blk b17 25 [.int .i64 a0.W, .int .i64 a0.H, .slice A1 a0.Color.length cp2, .slice A5 a0.Depth.length cp6, .slice A9 a0.Item.length cp10, .slice A13 a0.Tri.length cp14]] [RE.rd k_Ar4_Int A1 cp2 a0.Color, RE.rd kInt A5 cp6 a0.Depth, RE.rd kInt A9 cp10 a0.Item, RE.rd kInt A13 cp14 a0.Tri]) ?_ ?_
   ·cases hbS : b22
    ·have hm := cond_f hbS hmS
     refine RL_pure (by exact wn1 rfl rfl rfl rfl) (by rfl) (by rfl) (x_fieldAddr fo25_5 (by rfl)) ?_
     refine RL_pure (by exact wn1 rfl rfl rfl rfl) (by rfl) (by rfl) (x_load (j := 5) (v := .slice A13 a0.Tri.length cp14) sc23 (by rfl) (H.cells (i := 0) (by rfl)) (by rfl)) ?_
     refine RL_pure (by exact wn1 rfl rfl rfl rfl) (by rfl) (by rfl) (x_len sl23 (by rfl)) ?_
     refine RL_pure (by exact wn1 rfl rfl rfl rfl) (by rfl) (by rfl) (x_gtr (by rfl) (by rfl)) ?_
     refine RL_pure (by exact wn0 rfl) (by rfl) (by rfl) (x_pick_f (v := .bool (decide (5000 < (a0.Tri.length : Int)))) (by rfl) (by rfl)) ?_
     refine RL_nil ?_
     exact ⟨⟨congrArg Value.bool (Option.some.inj hm), trivial⟩, H⟩
    ·have hm := cond_t hbS hmS
     refine RL_cons (OpR_off (by exact wn2 rfl rfl rfl rfl) (by rfl) (by rfl) ?_)
     refine RL_cons (OpR_off (by exact wn2 rfl rfl rfl rfl) (by rfl) (by rfl) ?_)
     refine RL_cons (OpR_off (by exact wn2 rfl rfl rfl rfl) (by rfl) (by rfl) ?_)
     refine RL_cons (OpR_off (by exact wn2 rfl rfl rfl rfl) (by rfl) (by rfl) ?_)
     refine RL_pure (by exact wn0 rfl) (by rfl) (by rfl) (x_pick_t (v := .bool true) (by rfl) (by rfl)) ?_
     refine RL_nil ?_
     exact ⟨⟨congrArg Value.bool (Option.some.inj hm), trivial⟩, H⟩
   ·rintro r' w' ⟨hA, H⟩
    obtain ⟨r26, rfl⟩ := regen _ hA; clear hA
    obtain ⟨w27, rfl⟩ : ∃ W : World, W = w' := ⟨_, rfl⟩
    show RL _ _ _ _ _ _ _
    refine RL_pure (by exact wn0 rfl) (by rfl) (by rfl) (x_assign (v := .bool b25) (by rfl)) ?_
    refine RL_nil ?_
    refine W_ret ?_
    obtain rfl := Option.some.inj hm
    exact ⟨[.bool b25], (.tmp (by rfl) rfl), rfl, H.none_⟩
end Go.Proofs.YtobkigllalbkiaaV.M

/- A plain Lean function that answers as the Go function does (none: not told), and the proof that a call answers so. Written by program. -/
set_option linter.unusedVariables false
namespace Go.Proofs.YtobkigllalbkiaaV.M
open Go.RowKit Go.Proofs.YtobkigllalbkiaaV
def m12_l1b (K : Nat) (a0 : S_Pyramid) (rec1 : Int → Int → Option (Bool)) (y3_1 : Int) (y4_1 : Int) : Option (Bool) :=
 ((bif (decide (y4_1 < (a0.Levels.length : Int))) then some (decide (y4_1 < 100)) else some false).bind fun b9 => (bif b9 then (idx a0.Levels y4_1 fun el12 => (ck (y3_1 + (mn (el12.Low.length : Int) 100000)) fun x29 => (ck (y4_1 + 1) fun x30 => (rec1 x29 x30)))) else ((bif (decide (20 < (a0.Levels.length : Int))) then some true else some (decide (9000 < y3_1))).bind fun b31 => some b31)))
def m12_l1 (K : Nat) (a0 : S_Pyramid) : Nat → Int → Int → Option (Bool)
 | 0 => fun _ _ => none
 | k + 1 => m12_l1b K a0 (m12_l1 K a0 k)
/-- diorama/dioramaref27.Great -/
def m12 (K : Nat) (a0 : S_Pyramid) : Option (Bool) :=
 m12_l1 K a0 K 0 0
set_option maxRecDepth 100000 in
set_option maxHeartbeats 4000000 in
theorem c12 (ok : Okp) (K : Nat) (w : World) (a0 : S_Pyramid) (A1 : Option Addr) (cp2 : Nat) (hR3 : Rd k_Level w ok A1 cp2 a0.Levels) (res : Bool) (hm : m12 K a0 = some res) :
  Calls Try.prog 12 #[.agg #[.slice A1 a0.Levels.length cp2]] w (fun e w' => e = .returned (tup [.bool res]) ∧ Sep ok w w' [] []) := by
 refine calls_W (args := [.agg #[.slice A1 a0.Levels.length cp2]]) Try.func12 rfl Try.ntmps12 Try.results12 rfl fun r hr => ?_
 obtain ⟨r1, rfl⟩ := regen (r := r) [(0, .agg #[.slice A1 a0.Levels.length cp2])] ⟨hr 0 _ rfl, trivial⟩
 have H : Sep ok w w [] [RE.rd k_Level A1 cp2 a0.Levels] := Sep.arg (Sep.start ok w) (re := RE.rd k_Level A1 cp2 a0.Levels) rfl rfl hR3
 unfold m12 at hm
 refine W_seq ?_
 refine W_region ?_
 refine RL_cons (O_box (by exact wn0 rfl) (by rfl) (by rfl) (by rfl) H (fun w6 b5 (H : Sep ok w w6 [.blk b5 28 [.slice A1 a0.Levels.length cp2]] [RE.rd k_Level A1 cp2 a0.Levels]) => ?_))
 refine RL_pure (by exact wn0 rfl) (by rfl) (by rfl) (x_assign (v := .bool false) (by rfl)) ?_
 refine RL_nil ?_
 refine W_seq ?_
 refine W_region ?_
 refine RL_pure (by exact wn0 rfl) (by rfl) (by rfl) (x_assign (v := .int .i64 0) (by rfl)) ?_
 refine RL_nil ?_
 refine W_seq ?_
 refine W_seq ?_
 refine W_region ?_
 refine RL_pure (by exact wn0 rfl) (by rfl) (by rfl) (x_assign (v := .int .i64 0) (by rfl)) ?_
 refine RL_nil ?_
 refine W_block ?_
 refine W_loop (fun k1 r' w' => ∃ (y3_1 : Int), ∃ (y4_1 : Int), m12_l1 K a0 k1 y3_1 y4_1 = some res ∧ Agr [(1, .pointer (some ⟨b5, 0, none⟩)), (3, .int .i64 y3_1), (4, .int .i64 y4_1)] r' ∧ Sep ok w w' [.blk b5 28 [.slice A1 a0.Levels.length cp2]] [RE.rd k_Level A1 cp2 a0.Levels]) K ?_ ?_
 ·exact ⟨0, 0, hm, ⟨rfl, rfl, rfl, trivial⟩, H⟩
 ·rintro k1 r' w' ⟨y3_1, y4_1, hm, hA, H⟩
  obtain ⟨r7, rfl⟩ := regen _ hA; clear hA
  obtain ⟨w8, rfl⟩ : ∃ W : World, W = w' := ⟨_, rfl⟩
  cases k1 with
  | zero => exact (none_some hm).elim
  | succ k1 =>
   have hm : m12_l1b K a0 (m12_l1 K a0 k1) y3_1 y4_1 = some res := hm
   unfold m12_l1b at hm
   obtain ⟨rec1, hrec1⟩ : ∃ f, m12_l1 K a0 k1 = f := ⟨_, rfl⟩
   rw [hrec1] at hm
   refine W_seq ?_
   refine W_seq ?_
   refine W_region ?_
   refine RL_pure (by exact wn0 rfl) (by rfl) (by rfl) (x_move (v := .int .i64 y4_1) (by rfl)) ?_
   refine RL_pure (by exact wn0 rfl) (by rfl) (by rfl) (x_fieldAddr fo28_0 (by rfl)) ?_
   refine RL_pure (by exact wn0 rfl) (by rfl) (by rfl) (x_load (j := 0) (v := .slice A1 a0.Levels.length cp2) sc26 (by rfl) (H.cells (i := 0) (by rfl)) (by rfl)) ?_
   refine RL_pure (by exact wn0 rfl) (by rfl) (by rfl) (x_len sl26 (by rfl)) ?_
   refine RL_pure (by exact wn0 rfl) (by rfl) (by rfl) (x_lss (by rfl) (by rfl)) ?_
   refine RL_pure (by exact wn0 rfl) (by rfl) (by rfl) (x_move (v := .bool (decide (y4_1 < (a0.Levels.length : Int)))) (by rfl)) ?_
   obtain ⟨b9, hmS, hm⟩ := bind_some hm
   refine RL_cut 3 (fun r' w' => Agr [(13, .bool b9), (1, .pointer (some ⟨b5, 0, none⟩)), (3, .int .i64 y3_1), (4, .int .i64 y4_1)] r' ∧ Sep ok w w' [.blk b5 28 [.slice A1 a0.Levels.length cp2]] [RE.rd k_Level A1 cp2 a0.Levels]) ?_ ?_
   ·cases hbS : (decide (y4_1 < (a0.Levels.length : Int)))
    ·have hm := cond_f hbS hmS
     refine RL_cons (OpR_off (by exact wn2 rfl rfl rfl rfl) (by rfl) (by rfl) ?_)
     refine RL_cons (OpR_off (by exact wn2 rfl rfl rfl rfl) (by rfl) (by rfl) ?_)
     refine RL_pure (by exact wn0 rfl) (by rfl) (by rfl) (x_pick_f (v := .bool false) (by rfl) (by rfl)) ?_
     refine RL_nil ?_
     exact ⟨⟨congrArg Value.bool (Option.some.inj hm), rfl, rfl, rfl, trivial⟩, H⟩
    ·have hm := cond_t hbS hmS
     refine RL_pure (by exact wn1 rfl rfl rfl rfl) (by rfl) (by rfl) (x_move (v := .int .i64 y4_1) (by rfl)) ?_
     refine RL_pure (by exact wn1 rfl rfl rfl rfl) (by rfl) (by rfl) (x_lss (by rfl) (by rfl)) ?_
     refine RL_pure (by exact wn0 rfl) (by rfl) (by rfl) (x_pick_t (v := .bool (decide (y4_1 < 100))) (by rfl) (by rfl)) ?_
     refine RL_nil ?_
     exact ⟨⟨congrArg Value.bool (Option.some.inj hm), rfl, rfl, rfl, trivial⟩, H⟩
   ·rintro r' w' ⟨hA, H⟩
    obtain ⟨r10, rfl⟩ := regen _ hA; clear hA
    obtain ⟨w11, rfl⟩ : ∃ W : World, W = w' := ⟨_, rfl⟩
    show RL _ _ _ _ _ _ _
    refine RL_nil ?_
    refine W_cond (by rfl) (fun hb => ?_) (fun hb => ?_)
    ·have hm := cond_t hb hm
     refine W_skip ?_
     refine W_seq ?_
     refine W_block ?_
     refine W_region ?_
     refine RL_pure (by exact wn0 rfl) (by rfl) (by rfl) (x_move (v := .int .i64 y3_1) (by rfl)) ?_
     refine RL_pure (by exact wn0 rfl) (by rfl) (by rfl) (x_fieldAddr fo28_0 (by rfl)) ?_
     refine RL_pure (by exact wn0 rfl) (by rfl) (by rfl) (x_load (j := 0) (v := .slice A1 a0.Levels.length cp2) sc26 (by rfl) (H.cells (i := 0) (by rfl)) (by rfl)) ?_
     refine RL_pure (by exact wn0 rfl) (by rfl) (by rfl) (x_move (v := .int .i64 y4_1) (by rfl)) ?_
     obtain ⟨el12, h13, h14, he15, hm⟩ := idx_some hm
     obtain ⟨g17, o18, hA16⟩ := (H.rd (i := 0) (by rfl)).addr he15
     obtain ⟨cs19, hk20, hat21, hg_cs19⟩ := (H.rd (i := 0) (by rfl)).openAt hA16 he15
     obtain ⟨A24, cp25, rfl, hR27⟩ := hk20
     have H : Sep ok w w11 [.blk b5 28 [.slice A1 a0.Levels.length cp2]] [RE.rd k_Level A1 cp2 a0.Levels, RE.cells g17 (o18 + (y4_1).toNat * 3) [.int .i64 el12.W, .int .i64 el12.H, .slice A24 el12.Low.length cp25]] := Sep.also H (re := RE.cells g17 (o18 + (y4_1).toNat * 3) [.int .i64 el12.W, .int .i64 el12.H, .slice A24 el12.Low.length cp25]) ⟨hg_cs19, hat21⟩
     have H : Sep ok w w11 [.blk b5 28 [.slice A1 a0.Levels.length cp2]] [RE.rd k_Level A1 cp2 a0.Levels, RE.cells g17 (o18 + (y4_1).toNat * 3) [.int .i64 el12.W, .int .i64 el12.H, .slice A24 el12.Low.length cp25], RE.rd kInt A24 cp25 el12.Low] := Sep.also H (re := RE.rd kInt A24 cp25 el12.Low) hR27
     refine RL_pure (by exact wn0 rfl) (by rfl) (by rfl) (x_indexAddr sl26 sz54 (by rfl) (by rfl) hA16 h13 h14) ?_
     refine RL_pure (by exact wn0 rfl) (by rfl) (by rfl) (x_fieldAddr fo54_2 (by rfl)) ?_
     refine RL_pure (by exact wn0 rfl) (by rfl) (by rfl) (x_load (j := 2) (v := .slice A24 el12.Low.length cp25) sc23 (by rfl) (H.cellsR (i := 1) (by rfl)) (by rfl)) ?_
     refine RL_pure (by exact wn0 rfl) (by rfl) (by rfl) (x_len sl23 (by rfl)) ?_
     refine RL_pure (by exact wn0 rfl) (by rfl) (by rfl) (x_min2 (by rfl) (by rfl)) ?_
     obtain ⟨x29, ex29, qx29, ux29, hm⟩ := ck_some hm
     refine RL_pure (by exact wn0 rfl) (by rfl) (by rfl) (x_add (by rfl) (by rfl) ux29) ?_
     refine RL_pure (by exact wn0 rfl) (by rfl) (by rfl) (x_assign (v := .int .i64 x29) (by rfl)) ?_
     refine RL_nil ?_
     refine W_region ?_
     refine RL_pure (by exact wn0 rfl) (by rfl) (by rfl) (x_move (v := .int .i64 y4_1) (by rfl)) ?_
     obtain ⟨x30, ex30, qx30, ux30, hm⟩ := ck_some hm
     refine RL_pure (by exact wn0 rfl) (by rfl) (by rfl) (x_add (by rfl) (by rfl) ux30) ?_
     refine RL_pure (by exact wn0 rfl) (by rfl) (by rfl) (x_assign (v := .int .i64 x30) (by rfl)) ?_
     refine RL_nil ?_
     subst hrec1
     exact ⟨k1, Nat.lt_succ_self k1, x29, x30, hm, ⟨rfl, rfl, rfl, trivial⟩, (H).pick [0]⟩
    ·have hm := cond_f hb hm
     refine W_exit ?_
     refine W_seq ?_
     refine W_region ?_
     refine RL_pure (by exact wn0 rfl) (by rfl) (by rfl) (x_fieldAddr fo28_0 (by rfl)) ?_
     refine RL_pure (by exact wn0 rfl) (by rfl) (by rfl) (x_load (j := 0) (v := .slice A1 a0.Levels.length cp2) sc26 (by rfl) (H.cells (i := 0) (by rfl)) (by rfl)) ?_
     refine RL_pure (by exact wn0 rfl) (by rfl) (by rfl) (x_len sl26 (by rfl)) ?_
     refine RL_pure (by exact wn0 rfl) (by rfl) (by rfl) (x_gtr (by rfl) (by rfl)) ?_
     refine RL_pure (by exact wn0 rfl) (by rfl) (by rfl) (x_move (v := .bool (decide (20 < (a0.Levels.length : Int)))) (by rfl)) ?_
     obtain ⟨b31, hmS, hm⟩ := bind_some hm
     refine RL_cut 3 (fun r' w' => Agr [(33, .bool b31)] r' ∧ Sep ok w w' [.blk b5 28 [.slice A1 a0.Levels.length cp2]] [RE.rd k_Level A1 cp2 a0.Levels]) ?_ ?_
     ·cases hbS : (decide (20 < (a0.Levels.length : Int)))
      ·have hm := cond_f hbS hmS
       refine RL_pure (by exact wn1 rfl rfl rfl rfl) (by rfl) (by rfl) (x_move (v := .int .i64 y3_1) (by rfl)) ?_
       refine RL_pure (by exact wn1 rfl rfl rfl rfl) (by rfl) (by rfl) (x_gtr (by rfl) (by rfl)) ?_
       refine RL_pure (by exact wn0 rfl) (by rfl) (by rfl) (x_pick_f (v := .bool (decide (9000 < y3_1))) (by rfl) (by rfl)) ?_
       refine RL_nil ?_
       exact ⟨⟨congrArg Value.bool (Option.some.inj hm), trivial⟩, H⟩
      ·have hm := cond_t hbS hmS
       refine RL_cons (OpR_off (by exact wn2 rfl rfl rfl rfl) (by rfl) (by rfl) ?_)
       refine RL_cons (OpR_off (by exact wn2 rfl rfl rfl rfl) (by rfl) (by rfl) ?_)
       refine RL_pure (by exact wn0 rfl) (by rfl) (by rfl) (x_pick_t (v := .bool true) (by rfl) (by rfl)) ?_
       refine RL_nil ?_
       exact ⟨⟨congrArg Value.bool (Option.some.inj hm), trivial⟩, H⟩
     ·rintro r' w' ⟨hA, H⟩
      obtain ⟨r32, rfl⟩ := regen _ hA; clear hA
      obtain ⟨w33, rfl⟩ : ∃ W : World, W = w' := ⟨_, rfl⟩
      show RL _ _ _ _ _ _ _
      refine RL_pure (by exact wn0 rfl) (by rfl) (by rfl) (x_assign (v := .bool b31) (by rfl)) ?_
      refine RL_nil ?_
      refine W_ret ?_
      obtain rfl := Option.some.inj hm
      exact ⟨[.bool b31], (.tmp (by rfl) rfl), rfl, H.none_⟩
end Go.Proofs.YtobkigllalbkiaaV.M

/- A plain Lean function that answers as the Go function does (none: not told), and the proof that a call answers so. Written by program. -/
set_option linter.unusedVariables false
namespace Go.Proofs.YtobkigllalbkiaaV.M
open Go.RowKit Go.Proofs.YtobkigllalbkiaaV
/-- diorama/dioramaref25.Twin -/
def m13 (K : Nat) (a0 : S_Frame) : Option (S_Frame) :=
 (apds 4 ([] : List (Ar4 Int)) a0.Color fun l30 => (apds 8 ([] : List Int) a0.Depth fun l40 => (apds 8 ([] : List Int) a0.Item fun l50 => (apds 8 ([] : List Int) a0.Tri fun l60 => some (⟨a0.W, a0.H, l30, l40, l50, l60⟩ : S_Frame)))))
set_option maxRecDepth 100000 in
set_option maxHeartbeats 4000000 in
theorem c13 (ok : Okp) (K : Nat) (w : World) (a0 : S_Frame) (A1 : Option Addr) (cp2 : Nat) (A5 : Option Addr) (cp6 : Nat) (A9 : Option Addr) (cp10 : Nat) (A13 : Option Addr) (cp14 : Nat) (hR3 : Rd k_Ar4_Int w ok A1 cp2 a0.Color) (hR7 : Rd kInt w ok A5 cp6 a0.Depth) (hR11 : Rd kInt w ok A9 cp10 a0.Item) (hR15 : Rd kInt w ok A13 cp14 a0.Tri) (res : S_Frame) (hm : m13 K a0 = some res) :
  Calls Try.prog 13 #[.agg #[.int .i64 a0.W, .int .i64 a0.H, .slice A1 a0.Color.length cp2, .slice A5 a0.Depth.length cp6, .slice A9 a0.Item.length cp10, .slice A13 a0.Tri.length cp14]] w (fun e w' => ∃ (A0_ : Option Addr) (c0_ : Nat), ∃ (A1_ : Option Addr) (c1_ : Nat), ∃ (A2_ : Option Addr) (c2_ : Nat), ∃ (A3_ : Option Addr) (c3_ : Nat), e = .returned (tup [.agg #[.int .i64 res.W, .int .i64 res.H, .slice A0_ res.Color.length c0_, .slice A1_ res.Depth.length c1_, .slice A2_ res.Item.length c2_, .slice A3_ res.Tri.length c3_]]) ∧ Sep ok w w' [] [RE.rd k_Ar4_Int A0_ c0_ res.Color, RE.rd kInt A1_ c1_ res.Depth, RE.rd kInt A2_ c2_ res.Item, RE.rd kInt A3_ c3_ res.Tri]) := by
 refine calls_W (args := [.agg #[.int .i64 a0.W, .int .i64 a0.H, .slice A1 a0.Color.length cp2, .slice A5 a0.Depth.length cp6, .slice A9 a0.Item.length cp10, .slice A13 a0.Tri.length cp14]]) Try.func13 rfl Try.ntmps13 Try.results13 rfl fun r hr => ?_
 obtain ⟨r1, rfl⟩ := regen (r := r) [(0, .agg #[.int .i64 a0.W, .int .i64 a0.H, .slice A1 a0.Color.length cp2, .slice A5 a0.Depth.length cp6, .slice A9 a0.Item.length cp10, .slice A13 a0.Tri.length cp14])] ⟨hr 0 _ rfl, trivial⟩
 have H : Sep ok w w [] [RE.rd k_Ar4_Int A1 cp2 a0.Color, RE.rd kInt A5 cp6 a0.Depth, RE.rd kInt A9 cp10 a0.Item, RE.rd kInt A13 cp14 a0.Tri] := Sep.arg (Sep.arg (Sep.arg (Sep.arg (Sep.start ok w) (re := RE.rd k_Ar4_Int A1 cp2 a0.Color) rfl rfl hR3) (re := RE.rd kInt A5 cp6 a0.Depth) rfl rfl hR7) (re := RE.rd kInt A9 cp10 a0.Item) rfl rfl hR11) (re := RE.rd kInt A13 cp14 a0.Tri) rfl rfl hR15
 unfold m13 at hm
 refine W_seq ?_
 refine W_region ?_
 refine RL_cons (O_box (by exact wn0 rfl) (by rfl) (by rfl) (by rfl) H (fun w18 b17 (H : Sep ok w w18 [.blk b17 25 [.int .i64 a0.W, .int .i64 a0.H, .slice A1 a0.Color.length cp2, .slice A5 a0.Depth.length cp6, .slice A9 a0.Item.length cp10, .slice A13 a0.Tri.length cp14]] [RE.rd k_Ar4_Int A1 cp2 a0.Color, RE.rd kInt A5 cp6 a0.Depth, RE.rd kInt A9 cp10 a0.Item, RE.rd kInt A13 cp14 a0.Tri]) => ?_))
 refine RL_cons (O_alloc (by exact wn0 rfl) (by rfl) ze25 (by rfl) H (fun w20 b19 (H : Sep ok w w20 [.blk b17 25 [.int .i64 a0.W, .int .i64 a0.H, .slice A1 a0.Color.length cp2, .slice A5 a0.Depth.length cp6, .slice A9 a0.Item.length cp10, .slice A13 a0.Tri.length cp14], .blk b19 25 [.int .i64 0, .int .i64 0, .slice none 0 0, .slice none 0 0, .slice none 0 0, .slice none 0 0]] [RE.rd k_Ar4_Int A1 cp2 a0.Color, RE.rd kInt A5 cp6 a0.Depth, RE.rd kInt A9 cp10 a0.Item, RE.rd kInt A13 cp14 a0.Tri]) => ?_))
 refine RL_nil ?_
 refine W_seq ?_
 refine W_region ?_
 refine RL_pure (by exact wn0 rfl) (by rfl) (by rfl) (x_fieldAddr fo25_0 (by rfl)) ?_
 refine RL_pure (by exact wn0 rfl) (by rfl) (by rfl) (x_load (j := 0) (v := .int .i64 a0.W) sc3 (by rfl) (H.cells (i := 0) (by rfl)) (by rfl)) ?_
 refine RL_pure (by exact wn0 rfl) (by rfl) (by rfl) (x_fieldAddr fo25_1 (by rfl)) ?_
 refine RL_pure (by exact wn0 rfl) (by rfl) (by rfl) (x_load (j := 1) (v := .int .i64 a0.H) sc3 (by rfl) (H.cells (i := 0) (by rfl)) (by rfl)) ?_
 refine RL_pure (by exact wn0 rfl) (by rfl) (by rfl) (x_build (vs := [(0, .int .i64 a0.W), (1, .int .i64 a0.H)]) (cs := [.int .i64 a0.W, .int .i64 a0.H, .slice none 0 0, .slice none 0 0, .slice none 0 0, .slice none 0 0]) (by rfl) (by kernel_rfl)) ?_
 refine RL_cons (O_alloc (by exact wn0 rfl) (by rfl) ze25 (by rfl) H (fun w22 b21 (H : Sep ok w w22 [.blk b17 25 [.int .i64 a0.W, .int .i64 a0.H, .slice A1 a0.Color.length cp2, .slice A5 a0.Depth.length cp6, .slice A9 a0.Item.length cp10, .slice A13 a0.Tri.length cp14], .blk b19 25 [.int .i64 0, .int .i64 0, .slice none 0 0, .slice none 0 0, .slice none 0 0, .slice none 0 0], .blk b21 25 [.int .i64 0, .int .i64 0, .slice none 0 0, .slice none 0 0, .slice none 0 0, .slice none 0 0]] [RE.rd k_Ar4_Int A1 cp2 a0.Color, RE.rd kInt A5 cp6 a0.Depth, RE.rd kInt A9 cp10 a0.Item, RE.rd kInt A13 cp14 a0.Tri]) => ?_))
 refine RL_cons (O_store (i := 2) (off := 0) (by exact wn0 rfl) (by rfl) (by rfl) H (by rfl) (vs := [.int .i64 a0.W, .int .i64 a0.H, .slice none 0 0, .slice none 0 0, .slice none 0 0, .slice none 0 0]) (by rfl) sz25 (by rfl) (by rfl) (by rfl) (fun w23 (H : Sep ok w w23 [.blk b17 25 [.int .i64 a0.W, .int .i64 a0.H, .slice A1 a0.Color.length cp2, .slice A5 a0.Depth.length cp6, .slice A9 a0.Item.length cp10, .slice A13 a0.Tri.length cp14], .blk b19 25 [.int .i64 0, .int .i64 0, .slice none 0 0, .slice none 0 0, .slice none 0 0, .slice none 0 0], .blk b21 25 [.int .i64 a0.W, .int .i64 a0.H, .slice none 0 0, .slice none 0 0, .slice none 0 0, .slice none 0 0]] [RE.rd k_Ar4_Int A1 cp2 a0.Color, RE.rd kInt A5 cp6 a0.Depth, RE.rd kInt A9 cp10 a0.Item, RE.rd kInt A13 cp14 a0.Tri]) => ?_))
 refine RL_nil ?_
 refine W_seq ?_
 refine W_region ?_
 refine RL_pure (by exact wn0 rfl) (by rfl) (by rfl) (x_fieldAddr fo25_2 (by rfl)) ?_
 refine RL_pure (by exact wn0 rfl) (by rfl) (by rfl) (x_load (j := 2) (v := .slice none 0 0) sc22 (by rfl) (H.cells (i := 2) (by rfl)) (by rfl)) ?_
 refine RL_pure (by exact wn0 rfl) (by rfl) (by rfl) (x_fieldAddr fo25_2 (by rfl)) ?_
 refine RL_pure (by exact wn0 rfl) (by rfl) (by rfl) (x_load (j := 2) (v := .slice A1 a0.Color.length cp2) sc22 (by rfl) (H.cells (i := 0) (by rfl)) (by rfl)) ?_
 have H : Sep ok w w23 [.blk b17 25 [.int .i64 a0.W, .int .i64 a0.H, .slice A1 a0.Color.length cp2, .slice A5 a0.Depth.length cp6, .slice A9 a0.Item.length cp10, .slice A13 a0.Tri.length cp14], .blk b19 25 [.int .i64 0, .int .i64 0, .slice none 0 0, .slice none 0 0, .slice none 0 0, .slice none 0 0], .blk b21 25 [.int .i64 a0.W, .int .i64 a0.H, .slice none 0 0, .slice none 0 0, .slice none 0 0, .slice none 0 0], .row (.slice none 0 0) 61 k_Ar4_Int.sz 0 []] [RE.rd k_Ar4_Int A1 cp2 a0.Color, RE.rd kInt A5 cp6 a0.Depth, RE.rd kInt A9 cp10 a0.Item, RE.rd kInt A13 cp14 a0.Tri, RE.chunks k_Ar4_Int [] ([])] := H.nilRowK 61 k_Ar4_Int
 obtain ⟨l30, hl31, hb32, hm⟩ := apds_some hm
 refine RL_cons (O_appendAll (D := k_Ar4_Int) (xs := ([] : List (Ar4 Int))) (i := 3) (j := 4) (zs := a0.Color) (by exact wn0 rfl) (by rfl) (by rfl) (by rfl) H (by rfl) (by rfl) (H.rd (i := 0) (by rfl)) hl31 sl22 sz61 by61 ze61 (by rfl) (by rfl) hb32 (by rfl) (fun w26 A27 cp28 cs29 (H : Sep ok w w26 [.blk b17 25 [.int .i64 a0.W, .int .i64 a0.H, .slice A1 a0.Color.length cp2, .slice A5 a0.Depth.length cp6, .slice A9 a0.Item.length cp10, .slice A13 a0.Tri.length cp14], .blk b19 25 [.int .i64 0, .int .i64 0, .slice none 0 0, .slice none 0 0, .slice none 0 0, .slice none 0 0], .blk b21 25 [.int .i64 a0.W, .int .i64 a0.H, .slice none 0 0, .slice none 0 0, .slice none 0 0, .slice none 0 0], .row (.slice A27 l30.length cp28) 61 k_Ar4_Int.sz l30.length cs29] [RE.rd k_Ar4_Int A1 cp2 a0.Color, RE.rd kInt A5 cp6 a0.Depth, RE.rd kInt A9 cp10 a0.Item, RE.rd kInt A13 cp14 a0.Tri, RE.chunks k_Ar4_Int cs29 l30]) => ?_))
 refine RL_pure (by exact wn0 rfl) (by rfl) (by rfl) (x_fieldAddr fo25_2 (by rfl)) ?_
 refine RL_cons (O_store (i := 2) (off := 2) (by exact wn0 rfl) (by rfl) (by rfl) H (by rfl) (vs := [.slice A27 l30.length cp28]) (by rfl) sz22 (by rfl) (by rfl) (by rfl) (fun w33 (H : Sep ok w w33 [.blk b17 25 [.int .i64 a0.W, .int .i64 a0.H, .slice A1 a0.Color.length cp2, .slice A5 a0.Depth.length cp6, .slice A9 a0.Item.length cp10, .slice A13 a0.Tri.length cp14], .blk b19 25 [.int .i64 0, .int .i64 0, .slice none 0 0, .slice none 0 0, .slice none 0 0, .slice none 0 0], .blk b21 25 [.int .i64 a0.W, .int .i64 a0.H, .slice A27 l30.length cp28, .slice none 0 0, .slice none 0 0, .slice none 0 0], .row (.slice A27 l30.length cp28) 61 k_Ar4_Int.sz l30.length cs29] [RE.rd k_Ar4_Int A1 cp2 a0.Color, RE.rd kInt A5 cp6 a0.Depth, RE.rd kInt A9 cp10 a0.Item, RE.rd kInt A13 cp14 a0.Tri, RE.chunks k_Ar4_Int cs29 l30]) => ?_))
 refine RL_nil ?_
 refine W_seq ?_
 refine W_region ?_
 refine RL_pure (by exact wn0 rfl) (by rfl) (by rfl) (x_fieldAddr fo25_3 (by rfl)) ?_
 refine RL_pure (by exact wn0 rfl) (by rfl) (by rfl) (x_load (j := 3) (v := .slice none 0 0) sc23 (by rfl) (H.cells (i := 2) (by rfl)) (by rfl)) ?_
 refine RL_pure (by exact wn0 rfl) (by rfl) (by rfl) (x_fieldAddr fo25_3 (by rfl)) ?_
 refine RL_pure (by exact wn0 rfl) (by rfl) (by rfl) (x_load (j := 3) (v := .slice A5 a0.Depth.length cp6) sc23 (by rfl) (H.cells (i := 0) (by rfl)) (by rfl)) ?_
 have H : Sep ok w w33 [.blk b17 25 [.int .i64 a0.W, .int .i64 a0.H, .slice A1 a0.Color.length cp2, .slice A5 a0.Depth.length cp6, .slice A9 a0.Item.length cp10, .slice A13 a0.Tri.length cp14], .blk b19 25 [.int .i64 0, .int .i64 0, .slice none 0 0, .slice none 0 0, .slice none 0 0, .slice none 0 0], .blk b21 25 [.int .i64 a0.W, .int .i64 a0.H, .slice A27 l30.length cp28, .slice none 0 0, .slice none 0 0, .slice none 0 0], .row (.slice A27 l30.length cp28) 61 k_Ar4_Int.sz l30.length cs29, .row (.slice none 0 0) 3 kInt.sz 0 []] [RE.rd k_Ar4_Int A1 cp2 a0.Color, RE.rd kInt A5 cp6 a0.Depth, RE.rd kInt A9 cp10 a0.Item, RE.rd kInt A13 cp14 a0.Tri, RE.chunks k_Ar4_Int cs29 l30, RE.chunks kInt [] ([])] := H.nilRowK 3 kInt
 obtain ⟨l40, hl41, hb42, hm⟩ := apds_some hm
 refine RL_cons (O_appendAll (D := kInt) (xs := ([] : List Int)) (i := 4) (j := 5) (zs := a0.Depth) (by exact wn0 rfl) (by rfl) (by rfl) (by rfl) H (by rfl) (by rfl) (H.rd (i := 1) (by rfl)) hl41 sl23 sz3 by3 ze3 (by rfl) (by rfl) hb42 (by rfl) (fun w36 A37 cp38 cs39 (H : Sep ok w w36 [.blk b17 25 [.int .i64 a0.W, .int .i64 a0.H, .slice A1 a0.Color.length cp2, .slice A5 a0.Depth.length cp6, .slice A9 a0.Item.length cp10, .slice A13 a0.Tri.length cp14], .blk b19 25 [.int .i64 0, .int .i64 0, .slice none 0 0, .slice none 0 0, .slice none 0 0, .slice none 0 0], .blk b21 25 [.int .i64 a0.W, .int .i64 a0.H, .slice A27 l30.length cp28, .slice none 0 0, .slice none 0 0, .slice none 0 0], .row (.slice A27 l30.length cp28) 61 k_Ar4_Int.sz l30.length cs29, .row (.slice A37 l40.length cp38) 3 kInt.sz l40.length cs39] [RE.rd k_Ar4_Int A1 cp2 a0.Color, RE.rd kInt A5 cp6 a0.Depth, RE.rd kInt A9 cp10 a0.Item, RE.rd kInt A13 cp14 a0.Tri, RE.chunks k_Ar4_Int cs29 l30, RE.chunks kInt cs39 l40]) => ?_))
 refine RL_pure (by exact wn0 rfl) (by rfl) (by rfl) (x_fieldAddr fo25_3 (by rfl)) ?_
 refine RL_cons (O_store (i := 2) (off := 3) (by exact wn0 rfl) (by rfl) (by rfl) H (by rfl) (vs := [.slice A37 l40.length cp38]) (by rfl) sz23 (by rfl) (by rfl) (by rfl) (fun w43 (H : Sep ok w w43 [.blk b17 25 [.int .i64 a0.W, .int .i64 a0.H, .slice A1 a0.Color.length cp2, .slice A5 a0.Depth.length cp6, .slice A9 a0.Item.length cp10, .slice A13 a0.Tri.length cp14], .blk b19 25 [.int .i64 0, .int .i64 0, .slice none 0 0, .slice none 0 0, .slice none 0 0, .slice none 0 0], .blk b21 25 [.int .i64 a0.W, .int .i64 a0.H, .slice A27 l30.length cp28, .slice A37 l40.length cp38, .slice none 0 0, .slice none 0 0], .row (.slice A27 l30.length cp28) 61 k_Ar4_Int.sz l30.length cs29, .row (.slice A37 l40.length cp38) 3 kInt.sz l40.length cs39] [RE.rd k_Ar4_Int A1 cp2 a0.Color, RE.rd kInt A5 cp6 a0.Depth, RE.rd kInt A9 cp10 a0.Item, RE.rd kInt A13 cp14 a0.Tri, RE.chunks k_Ar4_Int cs29 l30, RE.chunks kInt cs39 l40]) => ?_))
 refine RL_nil ?_
 refine W_seq ?_
 refine W_region ?_
 refine RL_pure (by exact wn0 rfl) (by rfl) (by rfl) (x_fieldAddr fo25_4 (by rfl)) ?_
 refine RL_pure (by exact wn0 rfl) (by rfl) (by rfl) (x_load (j := 4) (v := .slice none 0 0) sc23 (by rfl) (H.cells (i := 2) (by rfl)) (by rfl)) ?_
 refine RL_pure (by exact wn0 rfl) (by rfl) (by rfl) (x_fieldAddr fo25_4 (by rfl)) ?_
 refine RL_pure (by exact wn0 rfl) (by rfl) (by rfl) (x_load (j := 4) (v := .slice A9 a0.Item.length cp10) sc23 (by rfl) (H.cells (i := 0) (by rfl)) (by rfl)) ?_
 have H : Sep ok w w43 [.blk b17 25 [.int .i64 a0.W, .int .i64 a0.H, .slice A1 a0.Color.length cp2, .slice A5 a0.Depth.length cp6, .slice A9 a0.Item.length cp10, .slice A13 a0.Tri.length cp14], .blk b19 25 [.int .i64 0, .int .i64 0, .slice none 0 0, .slice none 0 0, .slice none 0 0, .slice none 0 0], .blk b21 25 [.int .i64 a0.W, .int .i64 a0.H, .slice A27 l30.length cp28, .slice A37 l40.length cp38, .slice none 0 0, .slice none 0 0], .row (.slice A27 l30.length cp28) 61 k_Ar4_Int.sz l30.length cs29, .row (.slice A37 l40.length cp38) 3 kInt.sz l40.length cs39, .row (.slice none 0 0) 3 kInt.sz 0 []] [RE.rd k_Ar4_Int A1 cp2 a0.Color, RE.rd kInt A5 cp6 a0.Depth, RE.rd kInt A9 cp10 a0.Item, RE.rd kInt A13 cp14 a0.Tri, RE.chunks k_Ar4_Int cs29 l30, RE.chunks kInt cs39 l40, RE.chunks kInt [] ([])] := H.nilRowK 3 kInt
 obtain ⟨l50, hl51, hb52, hm⟩ := apds_some hm
 refine RL_cons (O_appendAll (D := kInt) (xs := ([] : List Int)) (i := 5) (j := 6) (zs := a0.Item) (by exact wn0 rfl) (by rfl) (by rfl) (by rfl) H (by rfl) (by rfl) (H.rd (i := 2) (by rfl)) hl51 sl23 sz3 by3 ze3 (by rfl) (by rfl) hb52 (by rfl) (fun w46 A47 cp48 cs49 (H : Sep ok w w46 [.blk b17 25 [.int .i64 a0.W, .int .i64 a0.H, .slice A1 a0.Color.length cp2, .slice A5 a0.Depth.length cp6, .slice A9 a0.Item.length cp10, .slice A13 a0.Tri.length cp14], .blk b19 25 [.int .i64 0, .int .i64 0, .slice none 0 0, .slice none 0 0, .slice none 0 0, .slice none 0 0], .blk b21 25 [.int .i64 a0.W, .int .i64 a0.H, .slice A27 l30.length cp28, .slice A37 l40.length cp38, .slice none 0 0, .slice none 0 0], .row (.slice A27 l30.length cp28) 61 k_Ar4_Int.sz l30.length cs29, .row (.slice A37 l40.length cp38) 3 kInt.sz l40.length cs39, .row (.slice A47 l50.length cp48) 3 kInt.sz l50.length cs49] [RE.rd k_Ar4_Int A1 cp2 a0.Color, RE.rd kInt A5 cp6 a0.Depth, RE.rd kInt A9 cp10 a0.Item, RE.rd kInt A13 cp14 a0.Tri, RE.chunks k_Ar4_Int cs29 l30, RE.chunks kInt cs39 l40, RE.chunks kInt cs49 l50]) => ?_))
 refine RL_pure (by exact wn0 rfl) (by rfl) (by rfl) (x_fieldAddr fo25_4 (by rfl)) ?_
 refine RL_cons (O_store (i := 2) (off := 4) (by exact wn0 rfl) (by rfl) (by rfl) H (by rfl) (vs := [.slice A47 l50.length cp48]) (by rfl) sz23 (by rfl) (by rfl) (by rfl) (fun w53 (H : Sep ok w w53 [.blk b17 25 [.int .i64 a0.W, .int .i64 a0.H, .slice A1 a0.Color.length cp2, .slice A5 a0.Depth.length cp6, .slice A9 a0.Item.length cp10, .slice A13 a0.Tri.length cp14], .blk b19 25 [.int .i64 0, .int .i64 0, .slice none 0 0, .slice none 0 0, .slice none 0 0, .slice none 0 0], .blk b21 25 [.int .i64 a0.W, .int .i64 a0.H, .slice A27 l30.length cp28, .slice A37 l40.length cp38, .slice A47 l50.length cp48, .slice none 0 0], .row (.slice A27 l30.length cp28) 61 k_Ar4_Int.sz l30.length cs29, .row (.slice A37 l40.length cp38) 3 kInt.sz l40.length cs39, .row (.slice A47 l50.length cp48) 3 kInt.sz l50.length cs49] [RE.rd k_Ar4_Int A1 cp2 a0.Color, RE.rd kInt A5 cp6 a0.Depth, RE.rd kInt A9 cp10 a0.Item, RE.rd kInt A13 cp14 a0.Tri, RE.chunks k_Ar4_Int cs29 l30, RE.chunks kInt cs39 l40, RE.chunks kInt cs49 l50]) => ?_))
 refine RL_nil ?_
 refine W_seq ?_
 refine W_region ?_
 refine RL_pure (by exact wn0 rfl) (by rfl) (by rfl) (x_fieldAddr fo25_5 (by rfl)) ?_
 refine RL_pure (by exact wn0 rfl) (by rfl) (by rfl) (x_load (j := 5) (v := .slice none 0 0) sc23 (by rfl) (H.cells (i := 2) (by rfl)) (by rfl)) ?_
 refine RL_pure (by exact wn0 rfl) (by rfl) (by rfl) (x_fieldAddr fo25_5 (by rfl)) ?_
 refine RL_pure (by exact wn0 rfl) (by rfl) (by rfl) (x_load (j := 5) (v := .slice A13 a0.Tri.length cp14) sc23 (by rfl) (H.cells (i := 0) (by rfl)) (by rfl)) ?_
 have H : Sep ok w w53 [.blk b17 25 [.int .i64 a0.W, .int .i64 a0.H, .slice A1 a0.Color.length cp2, .slice A5 a0.Depth.length cp6, .slice A9 a0.Item.length cp10, .slice A13 a0.Tri.length cp14], .blk b19 25 [.int .i64 0, .int .i64 0, .slice none 0 0, .slice none 0 0, .slice none 0 0, .slice none 0 0], .blk b21 25 [.int .i64 a0.W, .int .i64 a0.H, .slice A27 l30.length cp28, .slice A37 l40.length cp38, .slice A47 l50.length cp48, .slice none 0 0], .row (.slice A27 l30.length cp28) 61 k_Ar4_Int.sz l30.length cs29, .row (.slice A37 l40.length cp38) 3 kInt.sz l40.length cs39, .row (.slice A47 l50.length cp48) 3 kInt.sz l50.length cs49, .row (.slice none 0 0) 3 kInt.sz 0 []] [RE.rd k_Ar4_Int A1 cp2 a0.Color, RE.rd kInt A5 cp6 a0.Depth, RE.rd kInt A9 cp10 a0.Item, RE.rd kInt A13 cp14 a0.Tri, RE.chunks k_Ar4_Int cs29 l30, RE.chunks kInt cs39 l40, RE.chunks kInt cs49 l50, RE.chunks kInt [] ([])] := H.nilRowK 3 kInt
 obtain ⟨l60, hl61, hb62, hm⟩ := apds_some hm
 refine RL_cons (O_appendAll (D := kInt) (xs := ([] : List Int)) (i := 6) (j := 7) (zs := a0.Tri) (by exact wn0 rfl) (by rfl) (by rfl) (by rfl) H (by rfl) (by rfl) (H.rd (i := 3) (by rfl)) hl61 sl23 sz3 by3 ze3 (by rfl) (by rfl) hb62 (by rfl) (fun w56 A57 cp58 cs59 (H : Sep ok w w56 [.blk b17 25 [.int .i64 a0.W, .int .i64 a0.H, .slice A1 a0.Color.length cp2, .slice A5 a0.Depth.length cp6, .slice A9 a0.Item.length cp10, .slice A13 a0.Tri.length cp14], .blk b19 25 [.int .i64 0, .int .i64 0, .slice none 0 0, .slice none 0 0, .slice none 0 0, .slice none 0 0], .blk b21 25 [.int .i64 a0.W, .int .i64 a0.H, .slice A27 l30.length cp28, .slice A37 l40.length cp38, .slice A47 l50.length cp48, .slice none 0 0], .row (.slice A27 l30.length cp28) 61 k_Ar4_Int.sz l30.length cs29, .row (.slice A37 l40.length cp38) 3 kInt.sz l40.length cs39, .row (.slice A47 l50.length cp48) 3 kInt.sz l50.length cs49, .row (.slice A57 l60.length cp58) 3 kInt.sz l60.length cs59] [RE.rd k_Ar4_Int A1 cp2 a0.Color, RE.rd kInt A5 cp6 a0.Depth, RE.rd kInt A9 cp10 a0.Item, RE.rd kInt A13 cp14 a0.Tri, RE.chunks k_Ar4_Int cs29 l30, RE.chunks kInt cs39 l40, RE.chunks kInt cs49 l50, RE.chunks kInt cs59 l60]) => ?_))
 refine RL_pure (by exact wn0 rfl) (by rfl) (by rfl) (x_fieldAddr fo25_5 (by rfl)) ?_
 refine RL_cons (O_store (i := 2) (off := 5) (by exact wn0 rfl) (by rfl) (by rfl) H (by rfl) (vs := [.slice A57 l60.length cp58]) (by rfl) sz23 (by rfl) (by rfl) (by rfl) (fun w63 (H : Sep ok w w63 [.blk b17 25 [.int .i64 a0.W, .int .i64 a0.H, .slice A1 a0.Color.length cp2, .slice A5 a0.Depth.length cp6, .slice A9 a0.Item.length cp10, .slice A13 a0.Tri.length cp14], .blk b19 25 [.int .i64 0, .int .i64 0, .slice none 0 0, .slice none 0 0, .slice none 0 0, .slice none 0 0], .blk b21 25 [.int .i64 a0.W, .int .i64 a0.H, .slice A27 l30.length cp28, .slice A37 l40.length cp38, .slice A47 l50.length cp48, .slice A57 l60.length cp58], .row (.slice A27 l30.length cp28) 61 k_Ar4_Int.sz l30.length cs29, .row (.slice A37 l40.length cp38) 3 kInt.sz l40.length cs39, .row (.slice A47 l50.length cp48) 3 kInt.sz l50.length cs49, .row (.slice A57 l60.length cp58) 3 kInt.sz l60.length cs59] [RE.rd k_Ar4_Int A1 cp2 a0.Color, RE.rd kInt A5 cp6 a0.Depth, RE.rd kInt A9 cp10 a0.Item, RE.rd kInt A13 cp14 a0.Tri, RE.chunks k_Ar4_Int cs29 l30, RE.chunks kInt cs39 l40, RE.chunks kInt cs49 l50, RE.chunks kInt cs59 l60]) => ?_))
 refine RL_nil ?_
 refine W_seq ?_
 refine W_region ?_
 refine RL_pure (by exact wn0 rfl) (by rfl) (by rfl) (x_loadA (j := 0) (vs := [.int .i64 a0.W, .int .i64 a0.H, .slice A27 l30.length cp28, .slice A37 l40.length cp38, .slice A47 l50.length cp48, .slice A57 l60.length cp58]) ag25 (by rfl) (H.cells (i := 2) (by rfl)) (by rfl) (by rfl)) ?_
 refine RL_cons (O_store (i := 1) (off := 0) (by exact wn0 rfl) (by rfl) (by rfl) H (by rfl) (vs := [.int .i64 a0.W, .int .i64 a0.H, .slice A27 l30.length cp28, .slice A37 l40.length cp38, .slice A47 l50.length cp48, .slice A57 l60.length cp58]) (by rfl) sz25 (by rfl) (by rfl) (by rfl) (fun w64 (H : Sep ok w w64 [.blk b17 25 [.int .i64 a0.W, .int .i64 a0.H, .slice A1 a0.Color.length cp2, .slice A5 a0.Depth.length cp6, .slice A9 a0.Item.length cp10, .slice A13 a0.Tri.length cp14], .blk b19 25 [.int .i64 a0.W, .int .i64 a0.H, .slice A27 l30.length cp28, .slice A37 l40.length cp38, .slice A47 l50.length cp48, .slice A57 l60.length cp58], .blk b21 25 [.int .i64 a0.W, .int .i64 a0.H, .slice A27 l30.length cp28, .slice A37 l40.length cp38, .slice A47 l50.length cp48, .slice A57 l60.length cp58], .row (.slice A27 l30.length cp28) 61 k_Ar4_Int.sz l30.length cs29, .row (.slice A37 l40.length cp38) 3 kInt.sz l40.length cs39, .row (.slice A47 l50.length cp48) 3 kInt.sz l50.length cs49, .row (.slice A57 l60.length cp58) 3 kInt.sz l60.length cs59] [RE.rd k_Ar4_Int A1 cp2 a0.Color, RE.rd kInt A5 cp6 a0.Depth, RE.rd kInt A9 cp10 a0.Item, RE.rd kInt A13 cp14 a0.Tri, RE.chunks k_Ar4_Int cs29 l30, RE.chunks kInt cs39 l40, RE.chunks kInt cs49 l50, RE.chunks kInt cs59 l60]) => ?_))
 refine RL_nil ?_
 refine W_ret ?_
 have H : Sep ok w w64 [.blk b17 25 [.int .i64 a0.W, .int .i64 a0.H, .slice A1 a0.Color.length cp2, .slice A5 a0.Depth.length cp6, .slice A9 a0.Item.length cp10, .slice A13 a0.Tri.length cp14], .blk b19 25 [.int .i64 a0.W, .int .i64 a0.H, .slice A27 l30.length cp28, .slice A37 l40.length cp38, .slice A47 l50.length cp48, .slice A57 l60.length cp58], .blk b21 25 [.int .i64 a0.W, .int .i64 a0.H, .slice A27 l30.length cp28, .slice A37 l40.length cp38, .slice A47 l50.length cp48, .slice A57 l60.length cp58], .hole, .row (.slice A37 l40.length cp38) 3 kInt.sz l40.length cs39, .row (.slice A47 l50.length cp48) 3 kInt.sz l50.length cs49, .row (.slice A57 l60.length cp58) 3 kInt.sz l60.length cs59] [RE.rd k_Ar4_Int A1 cp2 a0.Color, RE.rd kInt A5 cp6 a0.Depth, RE.rd kInt A9 cp10 a0.Item, RE.rd kInt A13 cp14 a0.Tri, RE.rd k_Ar4_Int A27 cp28 l30, RE.chunks kInt cs39 l40, RE.chunks kInt cs49 l50, RE.chunks kInt cs59 l60] := H.frozen (i := 3) (j := 4) (by rfl) (by rfl)
 have H : Sep ok w w64 [.blk b17 25 [.int .i64 a0.W, .int .i64 a0.H, .slice A1 a0.Color.length cp2, .slice A5 a0.Depth.length cp6, .slice A9 a0.Item.length cp10, .slice A13 a0.Tri.length cp14], .blk b19 25 [.int .i64 a0.W, .int .i64 a0.H, .slice A27 l30.length cp28, .slice A37 l40.length cp38, .slice A47 l50.length cp48, .slice A57 l60.length cp58], .blk b21 25 [.int .i64 a0.W, .int .i64 a0.H, .slice A27 l30.length cp28, .slice A37 l40.length cp38, .slice A47 l50.length cp48, .slice A57 l60.length cp58], .hole, .hole, .row (.slice A47 l50.length cp48) 3 kInt.sz l50.length cs49, .row (.slice A57 l60.length cp58) 3 kInt.sz l60.length cs59] [RE.rd k_Ar4_Int A1 cp2 a0.Color, RE.rd kInt A5 cp6 a0.Depth, RE.rd kInt A9 cp10 a0.Item, RE.rd kInt A13 cp14 a0.Tri, RE.rd k_Ar4_Int A27 cp28 l30, RE.rd kInt A37 cp38 l40, RE.chunks kInt cs49 l50, RE.chunks kInt cs59 l60] := H.frozen (i := 4) (j := 5) (by rfl) (by rfl)
 have H : Sep ok w w64 [.blk b17 25 [.int .i64 a0.W, .int .i64 a0.H, .slice A1 a0.Color.length cp2, .slice A5 a0.Depth.length cp6, .slice A9 a0.Item.length cp10, .slice A13 a0.Tri.length cp14], .blk b19 25 [.int .i64 a0.W, .int .i64 a0.H, .slice A27 l30.length cp28, .slice A37 l40.length cp38, .slice A47 l50.length cp48, .slice A57 l60.length cp58], .blk b21 25 [.int .i64 a0.W, .int .i64 a0.H, .slice A27 l30.length cp28, .slice A37 l40.length cp38, .slice A47 l50.length cp48, .slice A57 l60.length cp58], .hole, .hole, .hole, .row (.slice A57 l60.length cp58) 3 kInt.sz l60.length cs59] [RE.rd k_Ar4_Int A1 cp2 a0.Color, RE.rd kInt A5 cp6 a0.Depth, RE.rd kInt A9 cp10 a0.Item, RE.rd kInt A13 cp14 a0.Tri, RE.rd k_Ar4_Int A27 cp28 l30, RE.rd kInt A37 cp38 l40, RE.rd kInt A47 cp48 l50, RE.chunks kInt cs59 l60] := H.frozen (i := 5) (j := 6) (by rfl) (by rfl)
 have H : Sep ok w w64 [.blk b17 25 [.int .i64 a0.W, .int .i64 a0.H, .slice A1 a0.Color.length cp2, .slice A5 a0.Depth.length cp6, .slice A9 a0.Item.length cp10, .slice A13 a0.Tri.length cp14], .blk b19 25 [.int .i64 a0.W, .int .i64 a0.H, .slice A27 l30.length cp28, .slice A37 l40.length cp38, .slice A47 l50.length cp48, .slice A57 l60.length cp58], .blk b21 25 [.int .i64 a0.W, .int .i64 a0.H, .slice A27 l30.length cp28, .slice A37 l40.length cp38, .slice A47 l50.length cp48, .slice A57 l60.length cp58], .hole, .hole, .hole, .hole] [RE.rd k_Ar4_Int A1 cp2 a0.Color, RE.rd kInt A5 cp6 a0.Depth, RE.rd kInt A9 cp10 a0.Item, RE.rd kInt A13 cp14 a0.Tri, RE.rd k_Ar4_Int A27 cp28 l30, RE.rd kInt A37 cp38 l40, RE.rd kInt A47 cp48 l50, RE.rd kInt A57 cp58 l60] := H.frozen (i := 6) (j := 7) (by rfl) (by rfl)
 obtain rfl := Option.some.inj hm
 exact ⟨[.agg #[.int .i64 a0.W, .int .i64 a0.H, .slice A27 l30.length cp28, .slice A37 l40.length cp38, .slice A47 l50.length cp48, .slice A57 l60.length cp58]], (.cellA (by rfl) ag25 (H.cells (i := 1) (by rfl)) (by rfl) rfl), A27, cp28, A37, cp38, A47, cp48, A57, cp58, rfl, (H.forgetAll).pick [4, 5, 6, 7]⟩
end Go.Proofs.YtobkigllalbkiaaV.M
