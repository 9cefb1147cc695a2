/- Proved: NodesNever returns true, whatever its arguments and the memory that it is called in, and each argument reads behind the call as it did before. No condition. -/
import Derived.Test.YtobkigllalbkiaaNodesNeverZE
/- A plain Lean function that answers as the Go function does (none: not told), and the proof that a call answers so. Written by program. -/
set_option linter.unusedVariables false
namespace Go.Proofs.YtobkigllalbkiaaV.M
open Go.RowKit Go.Proofs.YtobkigllalbkiaaV
def m9_j3 (K : Nat) (l_row42_2 : (List S_Handle)) (b13_0_2 : (List S_Slot)) (b13_1_2 : (List (List S_Handle))) (y8_2 : Int) (rec2 : (List S_Handle) → (List S_Slot) → (List (List S_Handle)) → Int → Option (Bool)) (b101_0_3 : (List S_Slot)) (b101_1_3 : (List (List S_Handle))) (y14_3 : Int) : Option (Bool) :=
 (bif (y14_3 != 0) then (ck (y8_2 + 1) fun x202 => (rec2 l_row42_2 b13_0_2 b13_1_2 x202)) else ((m43 K (⟨(⟨b101_0_3⟩ : S_Arena), b101_1_3⟩ : S_Graph)).bind fun v205 => (bif (v205 != 0) then some false else (ck (y8_2 + 1) fun x207 => (rec2 l_row42_2 b101_0_3 b101_1_3 x207)))))
def m9_j4 (K : Nat) (l_row42_2 : (List S_Handle)) (b13_0_2 : (List S_Slot)) (b13_1_2 : (List (List S_Handle))) (y8_2 : Int) (rec2 : (List S_Handle) → (List S_Slot) → (List (List S_Handle)) → Int → Option (Bool)) (el54 : S_Act) (y132_4 : Bool) : Option (Bool) :=
 (bif y132_4 then (idx l_row42_2 el54.A fun el125 => (idx l_row42_2 el54.B fun el132 => ((m38 K (⟨(⟨b13_0_2⟩ : S_Arena), b13_1_2⟩ : S_Graph) el125 el132 el54.At).bind fun v140 => (idx l_row42_2 el54.B fun el150 => (idx l_row42_2 el54.A fun el157 => ((m46 K (⟨(⟨b13_0_2⟩ : S_Arena), b13_1_2⟩ : S_Graph) el150 el157).bind fun v165 => ((bif (v140.2 == 60) then ((bif (v165.2 != 0) then some true else some (!v165.1)).bind fun b168 => some b168) else some false).bind fun b167 => ((bif b167 then some true else ((bif (v140.2 == 0) then ((bif (v165.2 != 0) then some true else some v165.1).bind fun b175 => some b175) else some false).bind fun b174 => some b174)).bind fun b173 => (bif b173 then some false else (m9_j3 K l_row42_2 b13_0_2 b13_1_2 y8_2 rec2 v140.1.Arena.Slots v140.1.Kids v140.2)))))))))) else (idx l_row42_2 el54.A fun el183 => ((m41 K (⟨(⟨b13_0_2⟩ : S_Arena), b13_1_2⟩ : S_Graph) el183 el54.At).bind fun v191 => (m9_j3 K l_row42_2 b13_0_2 b13_1_2 y8_2 rec2 v191.1.Arena.Slots v191.1.Kids v191.2))))
def m9_l2b (K : Nat) (a1 : (List S_Act)) (rec2 : (List S_Handle) → (List S_Slot) → (List (List S_Handle)) → Int → Option (Bool)) (l_row42_2 : (List S_Handle)) (b13_0_2 : (List S_Slot)) (b13_1_2 : (List (List S_Handle))) (y8_2 : Int) : Option (Bool) :=
 (bif (decide (y8_2 < (a1.length : Int))) then (idx a1 y8_2 fun el54 => (bif ((Int.tmod el54.Kind 5) == 0) then ((m45 K (⟨(⟨b13_0_2⟩ : S_Arena), b13_1_2⟩ : S_Graph)).bind fun v65 => (bif (v65.2.2 == 0) then (apd 16 l_row42_2 v65.2.1 fun l86 => (ck (y8_2 + 1) fun x89 => (rec2 l86 v65.1.Arena.Slots v65.1.Kids x89))) else (ck (y8_2 + 1) fun x90 => (rec2 l_row42_2 b13_0_2 b13_1_2 x90)))) else ((bif (decide (el54.A < 0)) then some true else some (decide ((l_row42_2.length : Int) ≤ el54.A))).bind fun b91 => ((bif b91 then some true else some (decide (el54.B < 0))).bind fun b94 => ((bif b94 then some true else some (decide ((l_row42_2.length : Int) ≤ el54.B))).bind fun b97 => (bif b97 then (ck (y8_2 + 1) fun x100 => (rec2 l_row42_2 b13_0_2 b13_1_2 x100)) else (bif ((Int.tmod el54.Kind 5) == 1) then (idx l_row42_2 el54.A fun el105 => ((m40 K (⟨(⟨b13_0_2⟩ : S_Arena), b13_1_2⟩ : S_Graph) el105).bind fun v113 => (m9_j3 K l_row42_2 b13_0_2 b13_1_2 y8_2 rec2 v113.1.Arena.Slots v113.1.Kids v113.2))) else (bif ((Int.tmod el54.Kind 5) == 2) then (m9_j4 K l_row42_2 b13_0_2 b13_1_2 y8_2 rec2 el54 ((Int.tmod el54.Kind 5) == 2)) else (m9_j4 K l_row42_2 b13_0_2 b13_1_2 y8_2 rec2 el54 ((Int.tmod el54.Kind 5) == 3)))))))))) else ((m47 K (⟨(⟨b13_0_2⟩ : S_Arena), b13_1_2⟩ : S_Graph)).bind fun v209 => some v209))
def m9_l2 (K : Nat) (a1 : (List S_Act)) : Nat → (List S_Handle) → (List S_Slot) → (List (List S_Handle)) → Int → Option (Bool)
 | 0 => fun _ _ _ _ => none
 | k + 1 => m9_l2b K a1 (m9_l2 K a1 k)
def m9_l1b (K : Nat) (a0 : S_Graph) (a1 : (List S_Act)) (rec1 : (List S_Handle) → Int → Option (Bool)) (l_row42_1 : (List S_Handle)) (y7_1 : Int) : Option (Bool) :=
 (bif (decide (y7_1 < (a0.Arena.Slots.length : Int))) then (idx a0.Arena.Slots y7_1 fun el35 => (apd 16 l_row42_1 (⟨y7_1, el35.Gen⟩ : S_Handle) fun l48 => (ck (y7_1 + 1) fun x51 => (rec1 l48 x51)))) else m9_l2 K a1 K l_row42_1 a0.Arena.Slots a0.Kids 0)
def m9_l1 (K : Nat) (a0 : S_Graph) (a1 : (List S_Act)) : Nat → (List S_Handle) → Int → Option (Bool)
 | 0 => fun _ _ => none
 | k + 1 => m9_l1b K a0 a1 (m9_l1 K a0 a1 k)
/-- diorama/dioramalaw06.NodesNever -/
def m9 (K : Nat) (a0 : S_Graph) (a1 : (List S_Act)) : Option (Bool) :=
 ((m42 K ).bind fun v16 => ((m44 K a0).bind fun v19 => ((bif v19 then some true else some (decide (60 < (a1.length : Int)))).bind fun b21 => ((bif b21 then some true else ((m43 K a0).bind fun v26 => some (v26 != 0))).bind fun b24 => ((bif b24 then some true else some (!v16)).bind fun b30 => (bif b30 then some v16 else m9_l1 K a0 a1 K ([]) 0))))))
set_option maxRecDepth 100000 in
set_option maxHeartbeats 4000000 in
theorem c9 (ok : Okp) (K : Nat) (w : World) (a0 : S_Graph) (A1 : Option Addr) (cp2 : Nat) (A5 : Option Addr) (cp6 : Nat) (a1 : (List S_Act)) (A9 : Option Addr) (cp10 : Nat) (hR3 : Rd k_Slot w ok A1 cp2 a0.Arena.Slots) (hR7 : Rd (Kd.slice k_Handle) w ok A5 cp6 a0.Kids) (hR11 : Rd k_Act w ok A9 cp10 a1) (res : Bool) (hm : m9 K a0 a1 = some res) :
  Calls Try.prog 9 #[.agg #[.slice A1 a0.Arena.Slots.length cp2, .slice A5 a0.Kids.length cp6], .slice A9 a1.length cp10] w (fun e w' => e = .returned (tup [.bool res]) ∧ Sep ok w w' [] []) := by
 refine calls_W (args := [.agg #[.slice A1 a0.Arena.Slots.length cp2, .slice A5 a0.Kids.length cp6], .slice A9 a1.length cp10]) Try.func9 rfl Try.ntmps9 Try.results9 rfl fun r hr => ?_
 obtain ⟨r1, rfl⟩ := regen (r := r) [(0, .agg #[.slice A1 a0.Arena.Slots.length cp2, .slice A5 a0.Kids.length cp6]), (1, .slice A9 a1.length cp10)] ⟨hr 0 _ rfl, hr 1 _ rfl, trivial⟩
 have H : Sep ok w w [] [RE.rd k_Slot A1 cp2 a0.Arena.Slots, RE.rd (Kd.slice k_Handle) A5 cp6 a0.Kids, RE.rd k_Act A9 cp10 a1] := Sep.arg (Sep.arg (Sep.arg (Sep.start ok w) (re := RE.rd k_Slot A1 cp2 a0.Arena.Slots) rfl rfl hR3) (re := RE.rd (Kd.slice k_Handle) A5 cp6 a0.Kids) rfl rfl hR7) (re := RE.rd k_Act A9 cp10 a1) rfl rfl hR11
 unfold m9 at hm
 refine W_seq ?_
 refine W_region ?_
 refine RL_cons (O_box (by exact wn0 rfl) (by rfl) (by rfl) (by rfl) H (fun w14 b13 (H : Sep ok w w14 [.blk b13 79 [.slice A1 a0.Arena.Slots.length cp2, .slice A5 a0.Kids.length cp6]] [RE.rd k_Slot A1 cp2 a0.Arena.Slots, RE.rd (Kd.slice k_Handle) A5 cp6 a0.Kids, RE.rd k_Act A9 cp10 a1]) => ?_))
 refine RL_pure (by exact wn0 rfl) (by rfl) (by rfl) (x_assign (v := .bool false) (by rfl)) ?_
 refine RL_nil ?_
 refine W_seq ?_
 refine W_region ?_
 obtain ⟨v16, hv15, hm⟩ := bind_some hm
 refine RL_cons (O_call (by exact wn0 rfl) (by rfl) (by rfl) (x_callL (by rfl) (args := []) (by rfl) (cf42 _ _)) (c42 okT K w14   v16 hv15) ?_)
 rintro e w17 ⟨rfl, H2⟩
 have H : Sep ok w w17 [.blk b13 79 [.slice A1 a0.Arena.Slots.length cp2, .slice A5 a0.Kids.length cp6]] [RE.rd k_Slot A1 cp2 a0.Arena.Slots, RE.rd (Kd.slice k_Handle) A5 cp6 a0.Kids, RE.rd k_Act A9 cp10 a1] := H.below H2.base
 clear H2
 refine ⟨_, rfl, ?_⟩
 show RL _ _ _ _ _ _ _
 refine RL_pure (by exact wn0 rfl) (by rfl) (by rfl) (x_assign (v := .bool v16) (by rfl)) ?_
 refine RL_nil ?_
 refine W_seq ?_
 refine W_seq ?_
 refine W_region ?_
 refine RL_pure (by exact wn0 rfl) (by rfl) (by rfl) (x_loadA (j := 0) (vs := [.slice A1 a0.Arena.Slots.length cp2, .slice A5 a0.Kids.length cp6]) ag79 (by rfl) (H.cells (i := 0) (by rfl)) (by rfl) (by rfl)) ?_
 obtain ⟨v19, hv18, hm⟩ := bind_some hm
 refine RL_cons (O_call (by exact wn0 rfl) (by rfl) (by rfl) (x_callL (by rfl) (args := [.agg #[.slice A1 a0.Arena.Slots.length cp2, .slice A5 a0.Kids.length cp6]]) (by rfl) (cf44 _ _)) (c44 okT K w17 a0 A1 cp2 A5 cp6 (H.rd (i := 0) (by rfl)).any (H.rd (i := 1) (by rfl)).any v19 hv18) ?_)
 rintro e w20 ⟨rfl, H2⟩
 have H : Sep ok w w20 [.blk b13 79 [.slice A1 a0.Arena.Slots.length cp2, .slice A5 a0.Kids.length cp6]] [RE.rd k_Slot A1 cp2 a0.Arena.Slots, RE.rd (Kd.slice k_Handle) A5 cp6 a0.Kids, RE.rd k_Act A9 cp10 a1] := H.below H2.base
 clear H2
 refine ⟨_, rfl, ?_⟩
 show RL _ _ _ _ _ _ _
 refine RL_pure (by exact wn0 rfl) (by rfl) (by rfl) (x_move (v := .bool v19) (by rfl)) ?_
 obtain ⟨b21, hmS, hm⟩ := bind_some hm
 refine RL_cut 4 (fun r' w' => Agr [(24, .bool b21), (1, .slice A9 a1.length cp10), (2, .pointer (some ⟨b13, 0, none⟩)), (5, .bool v16)] r' ∧ Sep ok w w' [.blk b13 79 [.slice A1 a0.Arena.Slots.length cp2, .slice A5 a0.Kids.length cp6]] [RE.rd k_Slot A1 cp2 a0.Arena.Slots, RE.rd (Kd.slice k_Handle) A5 cp6 a0.Kids, RE.rd k_Act A9 cp10 a1]) ?_ ?_
 ·cases hbS : v19
  ·have hm := cond_f hbS hmS
   refine RL_pure (by exact wn1 rfl rfl rfl rfl) (by rfl) (by rfl) (x_move (v := .slice A9 a1.length cp10) (by rfl)) ?_
   refine RL_pure (by exact wn1 rfl rfl rfl rfl) (by rfl) (by rfl) (x_len sl93 (by rfl)) ?_
   refine RL_pure (by exact wn1 rfl rfl rfl rfl) (by rfl) (by rfl) (x_gtr (by rfl) (by rfl)) ?_
   refine RL_pure (by exact wn0 rfl) (by rfl) (by rfl) (x_pick_f (v := .bool (decide (60 < (a1.length : Int)))) (by rfl) (by rfl)) ?_
   refine RL_nil ?_
   exact ⟨⟨congrArg Value.bool (Option.some.inj hm), rfl, rfl, rfl, trivial⟩, H⟩
  ·have hm := cond_t hbS hmS
   refine RL_cons (OpR_off (by exact wn2 rfl rfl rfl rfl) (by rfl) (by rfl) ?_)
   refine RL_cons (OpR_off (by exact wn2 rfl rfl rfl rfl) (by rfl) (by rfl) ?_)
   refine RL_cons (OpR_off (by exact wn2 rfl rfl rfl rfl) (by rfl) (by rfl) ?_)
   refine RL_pure (by exact wn0 rfl) (by rfl) (by rfl) (x_pick_t (v := .bool true) (by rfl) (by rfl)) ?_
   refine RL_nil ?_
   exact ⟨⟨congrArg Value.bool (Option.some.inj hm), rfl, rfl, rfl, trivial⟩, H⟩
 ·rintro r' w' ⟨hA, H⟩
  obtain ⟨r22, rfl⟩ := regen _ hA; clear hA
  obtain ⟨w23, rfl⟩ : ∃ W : World, W = w' := ⟨_, rfl⟩
  show RL _ _ _ _ _ _ _
  refine RL_pure (by exact wn0 rfl) (by rfl) (by rfl) (x_move (v := .bool b21) (by rfl)) ?_
  obtain ⟨b24, hmS, hm⟩ := bind_some hm
  refine RL_cut 4 (fun r' w' => Agr [(29, .bool b24), (1, .slice A9 a1.length cp10), (2, .pointer (some ⟨b13, 0, none⟩)), (5, .bool v16)] r' ∧ Sep ok w w' [.blk b13 79 [.slice A1 a0.Arena.Slots.length cp2, .slice A5 a0.Kids.length cp6]] [RE.rd k_Slot A1 cp2 a0.Arena.Slots, RE.rd (Kd.slice k_Handle) A5 cp6 a0.Kids, RE.rd k_Act A9 cp10 a1]) ?_ ?_
  ·cases hbS : b21
   ·have hm := cond_f hbS hmS
    refine RL_pure (by exact wn1 rfl rfl rfl rfl) (by rfl) (by rfl) (x_loadA (j := 0) (vs := [.slice A1 a0.Arena.Slots.length cp2, .slice A5 a0.Kids.length cp6]) ag79 (by rfl) (H.cells (i := 0) (by rfl)) (by rfl) (by rfl)) ?_
    obtain ⟨v26, hv25, hm⟩ := bind_some hm
    refine RL_cons (O_call (by exact wn1 rfl rfl rfl rfl) (by rfl) (by rfl) (x_callL (by rfl) (args := [.agg #[.slice A1 a0.Arena.Slots.length cp2, .slice A5 a0.Kids.length cp6]]) (by rfl) (cf43 _ _)) (c43 okT K w23 a0 A1 cp2 A5 cp6 (H.rd (i := 0) (by rfl)).any (H.rd (i := 1) (by rfl)).any v26 hv25) ?_)
    rintro e w27 ⟨rfl, H2⟩
    have H : Sep ok w w27 [.blk b13 79 [.slice A1 a0.Arena.Slots.length cp2, .slice A5 a0.Kids.length cp6]] [RE.rd k_Slot A1 cp2 a0.Arena.Slots, RE.rd (Kd.slice k_Handle) A5 cp6 a0.Kids, RE.rd k_Act A9 cp10 a1] := H.below H2.base
    clear H2
    refine ⟨_, rfl, ?_⟩
    show RL _ _ _ _ _ _ _
    refine RL_pure (by exact wn1 rfl rfl rfl rfl) (by rfl) (by rfl) (x_neq (by rfl) (by rfl)) ?_
    refine RL_pure (by exact wn0 rfl) (by rfl) (by rfl) (x_pick_f (v := .bool (v26 != 0)) (by rfl) (by rfl)) ?_
    refine RL_nil ?_
    exact ⟨⟨congrArg Value.bool (Option.some.inj hm), rfl, rfl, rfl, trivial⟩, H⟩
   ·have hm := cond_t hbS hmS
    refine RL_cons (OpR_off (by exact wn2 rfl rfl rfl rfl) (by rfl) (by rfl) ?_)
    refine RL_cons (OpR_off (by exact wn2 rfl rfl rfl rfl) (by rfl) (by rfl) ?_)
    refine RL_cons (OpR_off (by exact wn2 rfl rfl rfl rfl) (by rfl) (by rfl) ?_)
    refine RL_pure (by exact wn0 rfl) (by rfl) (by rfl) (x_pick_t (v := .bool true) (by rfl) (by rfl)) ?_
    refine RL_nil ?_
    exact ⟨⟨congrArg Value.bool (Option.some.inj hm), rfl, rfl, rfl, trivial⟩, H⟩
  ·rintro r' w' ⟨hA, H⟩
   obtain ⟨r28, rfl⟩ := regen _ hA; clear hA
   obtain ⟨w29, rfl⟩ : ∃ W : World, W = w' := ⟨_, rfl⟩
   show RL _ _ _ _ _ _ _
   refine RL_pure (by exact wn0 rfl) (by rfl) (by rfl) (x_move (v := .bool b24) (by rfl)) ?_
   obtain ⟨b30, hmS, hm⟩ := bind_some hm
   refine RL_cut 3 (fun r' w' => Agr [(33, .bool b30), (1, .slice A9 a1.length cp10), (2, .pointer (some ⟨b13, 0, none⟩)), (5, .bool v16)] r' ∧ Sep ok w w' [.blk b13 79 [.slice A1 a0.Arena.Slots.length cp2, .slice A5 a0.Kids.length cp6]] [RE.rd k_Slot A1 cp2 a0.Arena.Slots, RE.rd (Kd.slice k_Handle) A5 cp6 a0.Kids, RE.rd k_Act A9 cp10 a1]) ?_ ?_
   ·cases hbS : b24
    ·have hm := cond_f hbS hmS
     refine RL_pure (by exact wn1 rfl rfl rfl rfl) (by rfl) (by rfl) (x_move (v := .bool v16) (by rfl)) ?_
     refine RL_pure (by exact wn1 rfl rfl rfl rfl) (by rfl) (by rfl) (x_not (by rfl)) ?_
     refine RL_pure (by exact wn0 rfl) (by rfl) (by rfl) (x_pick_f (v := .bool (!v16)) (by rfl) (by rfl)) ?_
     refine RL_nil ?_
     exact ⟨⟨congrArg Value.bool (Option.some.inj hm), rfl, rfl, rfl, trivial⟩, H⟩
    ·have hm := cond_t hbS hmS
     refine RL_cons (OpR_off (by exact wn2 rfl rfl rfl rfl) (by rfl) (by rfl) ?_)
     refine RL_cons (OpR_off (by exact wn2 rfl rfl rfl rfl) (by rfl) (by rfl) ?_)
     refine RL_pure (by exact wn0 rfl) (by rfl) (by rfl) (x_pick_t (v := .bool true) (by rfl) (by rfl)) ?_
     refine RL_nil ?_
     exact ⟨⟨congrArg Value.bool (Option.some.inj hm), rfl, rfl, rfl, trivial⟩, H⟩
   ·rintro r' w' ⟨hA, H⟩
    obtain ⟨r31, rfl⟩ := regen _ hA; clear hA
    obtain ⟨w32, rfl⟩ : ∃ W : World, W = w' := ⟨_, rfl⟩
    show RL _ _ _ _ _ _ _
    refine RL_nil ?_
    refine W_cond (by rfl) (fun hb => ?_) (fun hb => ?_)
    ·have hm := cond_t hb hm
     refine W_seq ?_
     refine W_region ?_
     refine RL_pure (by exact wn0 rfl) (by rfl) (by rfl) (x_move (v := .bool v16) (by rfl)) ?_
     refine RL_pure (by exact wn0 rfl) (by rfl) (by rfl) (x_assign (v := .bool v16) (by rfl)) ?_
     refine RL_nil ?_
     refine W_ret ?_
     obtain rfl := Option.some.inj hm
     exact ⟨[.bool v16], (.tmp (by rfl) rfl), rfl, H.none_⟩
    ·have hm := cond_f hb hm
     refine W_skip ?_
     refine W_seq ?_
     refine W_region ?_
     refine RL_pure (by exact wn0 rfl) (by rfl) (by rfl) (x_assign (v := .slice none 0 0) (by rfl)) ?_
     refine RL_nil ?_
     refine W_seq ?_
     refine W_seq ?_
     refine W_region ?_
     refine RL_pure (by exact wn0 rfl) (by rfl) (by rfl) (x_assign (v := .int .i64 0) (by rfl)) ?_
     refine RL_nil ?_
     refine W_block ?_
     refine W_loop (fun k1 r' w' => ∃ (l_row42_1 : (List S_Handle)), ∃ (y7_1 : Int), ∃ (A_row42_1 : Option Addr), ∃ (c_row42_1 : Nat), ∃ (cs_row42_1 : List Value), m9_l1 K a0 a1 k1 l_row42_1 y7_1 = some res ∧ Agr [(1, .slice A9 a1.length cp10), (2, .pointer (some ⟨b13, 0, none⟩)), (6, .slice A_row42_1 l_row42_1.length c_row42_1), (7, .int .i64 y7_1)] r' ∧ Sep ok w w' [.blk b13 79 [.slice A1 a0.Arena.Slots.length cp2, .slice A5 a0.Kids.length cp6], .row (.slice A_row42_1 l_row42_1.length c_row42_1) 81 k_Handle.sz l_row42_1.length cs_row42_1] [RE.rd k_Slot A1 cp2 a0.Arena.Slots, RE.rd (Kd.slice k_Handle) A5 cp6 a0.Kids, RE.rd k_Act A9 cp10 a1, RE.chunks k_Handle cs_row42_1 l_row42_1]) K ?_ ?_
     ·exact ⟨[], 0, none, 0, [], hm, ⟨rfl, rfl, rfl, rfl, trivial⟩, (H).nilRowK 81 k_Handle⟩
     ·rintro k1 r' w' ⟨l_row42_1, y7_1, A_row42_1, c_row42_1, cs_row42_1, hm, hA, H⟩
      obtain ⟨r33, rfl⟩ := regen _ hA; clear hA
      obtain ⟨w34, rfl⟩ : ∃ W : World, W = w' := ⟨_, rfl⟩
      cases k1 with
      | zero => exact (none_some hm).elim
      | succ k1 =>
       have hm : m9_l1b K a0 a1 (m9_l1 K a0 a1 k1) l_row42_1 y7_1 = some res := hm
       unfold m9_l1b at hm
       obtain ⟨rec1, hrec1⟩ : ∃ f, m9_l1 K a0 a1 k1 = f := ⟨_, rfl⟩
       rw [hrec1] at hm
       refine W_seq ?_
       refine W_seq ?_
       refine W_region ?_
       refine RL_pure (by exact wn0 rfl) (by rfl) (by rfl) (x_move (v := .int .i64 y7_1) (by rfl)) ?_
       refine RL_pure (by exact wn0 rfl) (by rfl) (by rfl) (x_fieldAddr fo79_0 (by rfl)) ?_
       refine RL_pure (by exact wn0 rfl) (by rfl) (by rfl) (x_fieldAddr fo76_0 (by rfl)) ?_
       refine RL_pure (by exact wn0 rfl) (by rfl) (by rfl) (x_load (j := 0) (v := .slice A1 a0.Arena.Slots.length cp2) sc74 (by rfl) (H.cells (i := 0) (by rfl)) (by rfl)) ?_
       refine RL_pure (by exact wn0 rfl) (by rfl) (by rfl) (x_len sl74 (by rfl)) ?_
       refine RL_pure (by exact wn0 rfl) (by rfl) (by rfl) (x_lss (by rfl) (by rfl)) ?_
       refine RL_nil ?_
       refine W_cond (by rfl) (fun hb => ?_) (fun hb => ?_)
       ·have hm := cond_t hb hm
        refine W_skip ?_
        refine W_seq ?_
        refine W_block ?_
        refine W_region ?_
        refine RL_pure (by exact wn0 rfl) (by rfl) (by rfl) (x_move (v := .slice A_row42_1 l_row42_1.length c_row42_1) (by rfl)) ?_
        refine RL_pure (by exact wn0 rfl) (by rfl) (by rfl) (x_move (v := .int .i64 y7_1) (by rfl)) ?_
        refine RL_pure (by exact wn0 rfl) (by rfl) (by rfl) (x_fieldAddr fo79_0 (by rfl)) ?_
        refine RL_pure (by exact wn0 rfl) (by rfl) (by rfl) (x_fieldAddr fo76_0 (by rfl)) ?_
        refine RL_pure (by exact wn0 rfl) (by rfl) (by rfl) (x_load (j := 0) (v := .slice A1 a0.Arena.Slots.length cp2) sc74 (by rfl) (H.cells (i := 0) (by rfl)) (by rfl)) ?_
        refine RL_pure (by exact wn0 rfl) (by rfl) (by rfl) (x_move (v := .int .i64 y7_1) (by rfl)) ?_
        obtain ⟨el35, h36, h37, he38, hm⟩ := idx_some hm
        obtain ⟨g40, o41, hA39⟩ := (H.rd (i := 0) (by rfl)).addr he38
        refine RL_pure (by exact wn0 rfl) (by rfl) (by rfl) (x_indexAddr sl74 sz96 (by rfl) (by rfl) hA39 h36 h37) ?_
        refine RL_pure (by exact wn0 rfl) (by rfl) (by rfl) (x_fieldAddr fo96_0 (by rfl)) ?_
        refine RL_pure (by exact wn0 rfl) (by rfl) (by rfl) (x_load (j := 0) (v := .int .i64 el35.Gen) sc3 (by rfl) (Rd.flatAt (n := 2) (H.rd (i := 0) (by rfl)) hA39 he38) (by rfl)) ?_
        refine RL_pure (by exact wn0 rfl) (by rfl) (by rfl) (x_build (vs := [(0, .int .i64 y7_1), (1, .int .i64 el35.Gen)]) (cs := [.int .i64 y7_1, .int .i64 el35.Gen]) (by rfl) (by kernel_rfl)) ?_
        refine RL_cons (O_buildSlice (vs := [(0, .agg #[.int .i64 y7_1, .int .i64 el35.Gen])]) (cs := [.int .i64 y7_1, .int .i64 el35.Gen]) (by exact wn0 rfl) (by rfl) sl87 sz81 ze81 (by rfl) (by rfl) (by rfl) (by kernel_rfl) H (fun w43 b42 (H : Sep ok w w43 [.blk b13 79 [.slice A1 a0.Arena.Slots.length cp2, .slice A5 a0.Kids.length cp6], .row (.slice A_row42_1 l_row42_1.length c_row42_1) 81 k_Handle.sz l_row42_1.length cs_row42_1, .blk b42 81 [.int .i64 y7_1, .int .i64 el35.Gen]] [RE.rd k_Slot A1 cp2 a0.Arena.Slots, RE.rd (Kd.slice k_Handle) A5 cp6 a0.Kids, RE.rd k_Act A9 cp10 a1, RE.chunks k_Handle cs_row42_1 l_row42_1]) => ?_))
        obtain ⟨l48, hl49, hb50, hm⟩ := apd_some hm
        refine RL_cons (O_append (D := k_Handle) (i := 1) (j := 3) (o := 0) (y := (⟨y7_1, el35.Gen⟩ : S_Handle)) (by exact wn0 rfl) (by rfl) (by rfl) (by rfl) H (by rfl) (by rfl) (H.cells (i := 2) (by rfl)) rfl hl49 sl87 sz81 by81 ze81 (by rfl) (by rfl) hb50 (by rfl) (fun w44 A45 cp46 cs47 (H : Sep ok w w44 [.blk b13 79 [.slice A1 a0.Arena.Slots.length cp2, .slice A5 a0.Kids.length cp6], .row (.slice A45 l48.length cp46) 81 k_Handle.sz l48.length cs47, .blk b42 81 [.int .i64 y7_1, .int .i64 el35.Gen]] [RE.rd k_Slot A1 cp2 a0.Arena.Slots, RE.rd (Kd.slice k_Handle) A5 cp6 a0.Kids, RE.rd k_Act A9 cp10 a1, RE.chunks k_Handle cs47 l48]) => ?_))
        refine RL_pure (by exact wn0 rfl) (by rfl) (by rfl) (x_assign (v := .slice A45 l48.length cp46) (by rfl)) ?_
        refine RL_nil ?_
        refine W_region ?_
        refine RL_pure (by exact wn0 rfl) (by rfl) (by rfl) (x_move (v := .int .i64 y7_1) (by rfl)) ?_
        obtain ⟨x51, ex51, qx51, ux51, hm⟩ := ck_some hm
        refine RL_pure (by exact wn0 rfl) (by rfl) (by rfl) (x_add (by rfl) (by rfl) ux51) ?_
        refine RL_pure (by exact wn0 rfl) (by rfl) (by rfl) (x_assign (v := .int .i64 x51) (by rfl)) ?_
        refine RL_nil ?_
        subst hrec1
        exact ⟨k1, Nat.lt_succ_self k1, l48, x51, A45, cp46, cs47, hm, ⟨rfl, rfl, rfl, rfl, trivial⟩, (H).takeL 2⟩
       ·have hm := cond_f hb hm
        refine W_exit ?_
        refine W_seq ?_
        refine W_seq ?_
        refine W_region ?_
        refine RL_pure (by exact wn0 rfl) (by rfl) (by rfl) (x_assign (v := .int .i64 0) (by rfl)) ?_
        refine RL_nil ?_
        refine W_block ?_
        refine W_loop (fun k2 r' w' => ∃ (l_row42_2 : (List S_Handle)), ∃ (b13_0_2 : (List S_Slot)), ∃ (b13_1_2 : (List (List S_Handle))), ∃ (y8_2 : Int), ∃ (A_row42_2 : Option Addr), ∃ (c_row42_2 : Nat), ∃ (cs_row42_2 : List Value), ∃ (Ab13_0_2 : Option Addr), ∃ (cb13_0_2 : Nat), ∃ (Ab13_1_2 : Option Addr), ∃ (cb13_1_2 : Nat), m9_l2 K a1 k2 l_row42_2 b13_0_2 b13_1_2 y8_2 = some res ∧ Agr [(1, .slice A9 a1.length cp10), (2, .pointer (some ⟨b13, 0, none⟩)), (6, .slice A_row42_2 l_row42_2.length c_row42_2), (8, .int .i64 y8_2)] r' ∧ Sep ok w w' [.blk b13 79 [.slice Ab13_0_2 b13_0_2.length cb13_0_2, .slice Ab13_1_2 b13_1_2.length cb13_1_2], .row (.slice A_row42_2 l_row42_2.length c_row42_2) 81 k_Handle.sz l_row42_2.length cs_row42_2] [RE.rd k_Slot A1 cp2 a0.Arena.Slots, RE.rd (Kd.slice k_Handle) A5 cp6 a0.Kids, RE.rd k_Act A9 cp10 a1, RE.chunks k_Handle cs_row42_2 l_row42_2, RE.rd k_Slot Ab13_0_2 cb13_0_2 b13_0_2, RE.rd (Kd.slice k_Handle) Ab13_1_2 cb13_1_2 b13_1_2]) K ?_ ?_
        ·exact ⟨l_row42_1, a0.Arena.Slots, a0.Kids, 0, A_row42_1, c_row42_1, cs_row42_1, A1, cp2, A5, cp6, hm, ⟨rfl, rfl, rfl, rfl, trivial⟩, (H).pick [0, 1, 2, 3, 0, 1]⟩
        ·rintro k2 r' w' ⟨l_row42_2, b13_0_2, b13_1_2, y8_2, A_row42_2, c_row42_2, cs_row42_2, Ab13_0_2, cb13_0_2, Ab13_1_2, cb13_1_2, hm, hA, H⟩
         obtain ⟨r52, rfl⟩ := regen _ hA; clear hA
         obtain ⟨w53, rfl⟩ : ∃ W : World, W = w' := ⟨_, rfl⟩
         cases k2 with
         | zero => exact (none_some hm).elim
         | succ k2 =>
          have hm : m9_l2b K a1 (m9_l2 K a1 k2) l_row42_2 b13_0_2 b13_1_2 y8_2 = some res := hm
          unfold m9_l2b at hm
          obtain ⟨rec2, hrec2⟩ : ∃ f, m9_l2 K a1 k2 = f := ⟨_, rfl⟩
          rw [hrec2] at hm
          refine W_seq ?_
          refine W_seq ?_
          refine W_region ?_
          refine RL_pure (by exact wn0 rfl) (by rfl) (by rfl) (x_move (v := .int .i64 y8_2) (by rfl)) ?_
          refine RL_pure (by exact wn0 rfl) (by rfl) (by rfl) (x_move (v := .slice A9 a1.length cp10) (by rfl)) ?_
          refine RL_pure (by exact wn0 rfl) (by rfl) (by rfl) (x_len sl93 (by rfl)) ?_
          refine RL_pure (by exact wn0 rfl) (by rfl) (by rfl) (x_lss (by rfl) (by rfl)) ?_
          refine RL_nil ?_
          refine W_cond (by rfl) (fun hb => ?_) (fun hb => ?_)
          ·have hm := cond_t hb hm
           refine W_skip ?_
           refine W_seq ?_
           refine W_block ?_
           refine W_seq ?_
           refine W_region ?_
           refine RL_pure (by exact wn0 rfl) (by rfl) (by rfl) (x_move (v := .slice A9 a1.length cp10) (by rfl)) ?_
           refine RL_pure (by exact wn0 rfl) (by rfl) (by rfl) (x_move (v := .int .i64 y8_2) (by rfl)) ?_
           obtain ⟨el54, h55, h56, he57, hm⟩ := idx_some hm
           obtain ⟨g59, o60, hA58⟩ := (H.rd (i := 2) (by rfl)).addr he57
           refine RL_pure (by exact wn0 rfl) (by rfl) (by rfl) (x_indexAddr sl93 sz98 (by rfl) (by rfl) hA58 h55 h56) ?_
           refine RL_pure (by exact wn0 rfl) (by rfl) (by rfl) (x_loadA (j := 0) (vs := [.int .u8 el54.Kind, .int .i64 el54.A, .int .i64 el54.B, .int .i64 el54.At]) ag98 (by rfl) (Rd.flatAt (n := 4) (H.rd (i := 2) (by rfl)) hA58 he57) (by rfl) (by rfl)) ?_
           refine RL_cons (O_alloc (by exact wn0 rfl) (by rfl) ze98 (by rfl) H (fun w62 b61 (H : Sep ok w w62 [.blk b13 79 [.slice Ab13_0_2 b13_0_2.length cb13_0_2, .slice Ab13_1_2 b13_1_2.length cb13_1_2], .row (.slice A_row42_2 l_row42_2.length c_row42_2) 81 k_Handle.sz l_row42_2.length cs_row42_2, .blk b61 98 [.int .u8 0, .int .i64 0, .int .i64 0, .int .i64 0]] [RE.rd k_Slot A1 cp2 a0.Arena.Slots, RE.rd (Kd.slice k_Handle) A5 cp6 a0.Kids, RE.rd k_Act A9 cp10 a1, RE.chunks k_Handle cs_row42_2 l_row42_2, RE.rd k_Slot Ab13_0_2 cb13_0_2 b13_0_2, RE.rd (Kd.slice k_Handle) Ab13_1_2 cb13_1_2 b13_1_2]) => ?_))
           refine RL_cons (O_store (i := 2) (off := 0) (by exact wn0 rfl) (by rfl) (by rfl) H (by rfl) (vs := [.int .u8 el54.Kind, .int .i64 el54.A, .int .i64 el54.B, .int .i64 el54.At]) (by rfl) sz98 (by rfl) (by rfl) (by rfl) (fun w63 (H : Sep ok w w63 [.blk b13 79 [.slice Ab13_0_2 b13_0_2.length cb13_0_2, .slice Ab13_1_2 b13_1_2.length cb13_1_2], .row (.slice A_row42_2 l_row42_2.length c_row42_2) 81 k_Handle.sz l_row42_2.length cs_row42_2, .blk b61 98 [.int .u8 el54.Kind, .int .i64 el54.A, .int .i64 el54.B, .int .i64 el54.At]] [RE.rd k_Slot A1 cp2 a0.Arena.Slots, RE.rd (Kd.slice k_Handle) A5 cp6 a0.Kids, RE.rd k_Act A9 cp10 a1, RE.chunks k_Handle cs_row42_2 l_row42_2, RE.rd k_Slot Ab13_0_2 cb13_0_2 b13_0_2, RE.rd (Kd.slice k_Handle) Ab13_1_2 cb13_1_2 b13_1_2]) => ?_))
           refine RL_nil ?_
           refine W_seq ?_
           refine W_seq ?_
           refine W_region ?_
           refine RL_pure (by exact wn0 rfl) (by rfl) (by rfl) (x_fieldAddr fo98_0 (by rfl)) ?_
           refine RL_pure (by exact wn0 rfl) (by rfl) (by rfl) (x_load (j := 0) (v := .int .u8 el54.Kind) sc5 (by rfl) (H.cells (i := 2) (by rfl)) (by rfl)) ?_
           refine RL_pure (by exact wn0 rfl) (by rfl) (by rfl) (x_rem (by rfl) (by rfl) (by decide)) ?_
           refine RL_pure (by exact wn0 rfl) (by rfl) (by rfl) (x_eql (by rfl) (by rfl)) ?_
           refine RL_nil ?_
           refine W_cond (by rfl) (fun hb => ?_) (fun hb => ?_)
           ·have hm := cond_t hb hm
            refine W_seq ?_
            refine W_region ?_
            refine RL_pure (by exact wn0 rfl) (by rfl) (by rfl) (x_loadA (j := 0) (vs := [.slice Ab13_0_2 b13_0_2.length cb13_0_2, .slice Ab13_1_2 b13_1_2.length cb13_1_2]) ag79 (by rfl) (H.cells (i := 0) (by rfl)) (by rfl) (by rfl)) ?_
            obtain ⟨v65, hv64, hm⟩ := bind_some hm
            refine RL_cons (O_call (by exact wn0 rfl) (by rfl) (by rfl) (x_callL (by rfl) (args := [.agg #[.slice Ab13_0_2 b13_0_2.length cb13_0_2, .slice Ab13_1_2 b13_1_2.length cb13_1_2]]) (by rfl) (cf45 _ _)) (c45 (okS ok w [.blk b13 79 [.slice Ab13_0_2 b13_0_2.length cb13_0_2, .slice Ab13_1_2 b13_1_2.length cb13_1_2], .row (.slice A_row42_2 l_row42_2.length c_row42_2) 81 k_Handle.sz l_row42_2.length cs_row42_2, .blk b61 98 [.int .u8 el54.Kind, .int .i64 el54.A, .int .i64 el54.B, .int .i64 el54.At]]) K w63 (⟨(⟨b13_0_2⟩ : S_Arena), b13_1_2⟩ : S_Graph) Ab13_0_2 cb13_0_2 Ab13_1_2 cb13_1_2 (H.rd (i := 4) (by rfl)) (H.rd (i := 5) (by rfl)) v65 hv64) ?_)
            rintro e w66 ⟨A67, cp68, A70, cp71, rfl, H2⟩
            have H : Sep ok w w66 [.blk b13 79 [.slice Ab13_0_2 b13_0_2.length cb13_0_2, .slice Ab13_1_2 b13_1_2.length cb13_1_2], .row (.slice A_row42_2 l_row42_2.length c_row42_2) 81 k_Handle.sz l_row42_2.length cs_row42_2, .blk b61 98 [.int .u8 el54.Kind, .int .i64 el54.A, .int .i64 el54.B, .int .i64 el54.At]] [RE.rd k_Slot A1 cp2 a0.Arena.Slots, RE.rd (Kd.slice k_Handle) A5 cp6 a0.Kids, RE.rd k_Act A9 cp10 a1, RE.chunks k_Handle cs_row42_2 l_row42_2, RE.rd k_Slot Ab13_0_2 cb13_0_2 b13_0_2, RE.rd (Kd.slice k_Handle) Ab13_1_2 cb13_1_2 b13_1_2, RE.rd k_Slot A67 cp68 v65.1.Arena.Slots, RE.rd (Kd.slice k_Handle) A70 cp71 v65.1.Kids] := H.call H2
            clear H2
            refine ⟨_, rfl, ?_⟩
            show RL _ _ _ _ _ _ _
            refine RL_pure (by exact wn0 rfl) (by rfl) (by rfl) (x_move (v := tup [.agg #[.slice A67 v65.1.Arena.Slots.length cp68, .slice A70 v65.1.Kids.length cp71], .agg #[.int .i64 v65.2.1.Slot, .int .i64 v65.2.1.Gen], .int .i64 v65.2.2]) (by rfl)) ?_
            refine RL_pure (by exact wn0 rfl) (by rfl) (by rfl) (x_extract (v := .agg #[.slice A67 v65.1.Arena.Slots.length cp68, .slice A70 v65.1.Kids.length cp71]) (by rfl) (by rfl)) ?_
            refine RL_pure (by exact wn0 rfl) (by rfl) (by rfl) (x_extract (v := .agg #[.int .i64 v65.2.1.Slot, .int .i64 v65.2.1.Gen]) (by rfl) (by rfl)) ?_
            refine RL_pure (by exact wn0 rfl) (by rfl) (by rfl) (x_extract (v := .int .i64 v65.2.2) (by rfl) (by rfl)) ?_
            refine RL_cons (O_alloc (by exact wn0 rfl) (by rfl) ze79 (by rfl) H (fun w74 b73 (H : Sep ok w w74 [.blk b13 79 [.slice Ab13_0_2 b13_0_2.length cb13_0_2, .slice Ab13_1_2 b13_1_2.length cb13_1_2], .row (.slice A_row42_2 l_row42_2.length c_row42_2) 81 k_Handle.sz l_row42_2.length cs_row42_2, .blk b61 98 [.int .u8 el54.Kind, .int .i64 el54.A, .int .i64 el54.B, .int .i64 el54.At], .blk b73 79 [.slice none 0 0, .slice none 0 0]] [RE.rd k_Slot A1 cp2 a0.Arena.Slots, RE.rd (Kd.slice k_Handle) A5 cp6 a0.Kids, RE.rd k_Act A9 cp10 a1, RE.chunks k_Handle cs_row42_2 l_row42_2, RE.rd k_Slot Ab13_0_2 cb13_0_2 b13_0_2, RE.rd (Kd.slice k_Handle) Ab13_1_2 cb13_1_2 b13_1_2, RE.rd k_Slot A67 cp68 v65.1.Arena.Slots, RE.rd (Kd.slice k_Handle) A70 cp71 v65.1.Kids]) => ?_))
            refine RL_cons (O_alloc (by exact wn0 rfl) (by rfl) ze81 (by rfl) H (fun w76 b75 (H : Sep ok w w76 [.blk b13 79 [.slice Ab13_0_2 b13_0_2.length cb13_0_2, .slice Ab13_1_2 b13_1_2.length cb13_1_2], .row (.slice A_row42_2 l_row42_2.length c_row42_2) 81 k_Handle.sz l_row42_2.length cs_row42_2, .blk b61 98 [.int .u8 el54.Kind, .int .i64 el54.A, .int .i64 el54.B, .int .i64 el54.At], .blk b73 79 [.slice none 0 0, .slice none 0 0], .blk b75 81 [.int .i64 0, .int .i64 0]] [RE.rd k_Slot A1 cp2 a0.Arena.Slots, RE.rd (Kd.slice k_Handle) A5 cp6 a0.Kids, RE.rd k_Act A9 cp10 a1, RE.chunks k_Handle cs_row42_2 l_row42_2, RE.rd k_Slot Ab13_0_2 cb13_0_2 b13_0_2, RE.rd (Kd.slice k_Handle) Ab13_1_2 cb13_1_2 b13_1_2, RE.rd k_Slot A67 cp68 v65.1.Arena.Slots, RE.rd (Kd.slice k_Handle) A70 cp71 v65.1.Kids]) => ?_))
            refine RL_cons (O_store (i := 3) (off := 0) (by exact wn0 rfl) (by rfl) (by rfl) H (by rfl) (vs := [.slice A67 v65.1.Arena.Slots.length cp68, .slice A70 v65.1.Kids.length cp71]) (by rfl) sz79 (by rfl) (by rfl) (by rfl) (fun w77 (H : Sep ok w w77 [.blk b13 79 [.slice Ab13_0_2 b13_0_2.length cb13_0_2, .slice Ab13_1_2 b13_1_2.length cb13_1_2], .row (.slice A_row42_2 l_row42_2.length c_row42_2) 81 k_Handle.sz l_row42_2.length cs_row42_2, .blk b61 98 [.int .u8 el54.Kind, .int .i64 el54.A, .int .i64 el54.B, .int .i64 el54.At], .blk b73 79 [.slice A67 v65.1.Arena.Slots.length cp68, .slice A70 v65.1.Kids.length cp71], .blk b75 81 [.int .i64 0, .int .i64 0]] [RE.rd k_Slot A1 cp2 a0.Arena.Slots, RE.rd (Kd.slice k_Handle) A5 cp6 a0.Kids, RE.rd k_Act A9 cp10 a1, RE.chunks k_Handle cs_row42_2 l_row42_2, RE.rd k_Slot Ab13_0_2 cb13_0_2 b13_0_2, RE.rd (Kd.slice k_Handle) Ab13_1_2 cb13_1_2 b13_1_2, RE.rd k_Slot A67 cp68 v65.1.Arena.Slots, RE.rd (Kd.slice k_Handle) A70 cp71 v65.1.Kids]) => ?_))
            refine RL_cons (O_store (i := 4) (off := 0) (by exact wn0 rfl) (by rfl) (by rfl) H (by rfl) (vs := [.int .i64 v65.2.1.Slot, .int .i64 v65.2.1.Gen]) (by rfl) sz81 (by rfl) (by rfl) (by rfl) (fun w78 (H : Sep ok w w78 [.blk b13 79 [.slice Ab13_0_2 b13_0_2.length cb13_0_2, .slice Ab13_1_2 b13_1_2.length cb13_1_2], .row (.slice A_row42_2 l_row42_2.length c_row42_2) 81 k_Handle.sz l_row42_2.length cs_row42_2, .blk b61 98 [.int .u8 el54.Kind, .int .i64 el54.A, .int .i64 el54.B, .int .i64 el54.At], .blk b73 79 [.slice A67 v65.1.Arena.Slots.length cp68, .slice A70 v65.1.Kids.length cp71], .blk b75 81 [.int .i64 v65.2.1.Slot, .int .i64 v65.2.1.Gen]] [RE.rd k_Slot A1 cp2 a0.Arena.Slots, RE.rd (Kd.slice k_Handle) A5 cp6 a0.Kids, RE.rd k_Act A9 cp10 a1, RE.chunks k_Handle cs_row42_2 l_row42_2, RE.rd k_Slot Ab13_0_2 cb13_0_2 b13_0_2, RE.rd (Kd.slice k_Handle) Ab13_1_2 cb13_1_2 b13_1_2, RE.rd k_Slot A67 cp68 v65.1.Arena.Slots, RE.rd (Kd.slice k_Handle) A70 cp71 v65.1.Kids]) => ?_))
            refine RL_pure (by exact wn0 rfl) (by rfl) (by rfl) (x_assign (v := .int .i64 v65.2.2) (by rfl)) ?_
            refine RL_nil ?_
            refine W_seq ?_
            refine W_seq ?_
            refine W_region ?_
            refine RL_pure (by exact wn0 rfl) (by rfl) (by rfl) (x_move (v := .int .i64 v65.2.2) (by rfl)) ?_
            refine RL_pure (by exact wn0 rfl) (by rfl) (by rfl) (x_eql (by rfl) (by rfl)) ?_
            refine RL_nil ?_
            refine W_cond (by rfl) (fun hb => ?_) (fun hb => ?_)
            ·have hm := cond_t hb hm
             refine W_seq ?_
             refine W_region ?_
             refine RL_pure (by exact wn0 rfl) (by rfl) (by rfl) (x_loadA (j := 0) (vs := [.slice A67 v65.1.Arena.Slots.length cp68, .slice A70 v65.1.Kids.length cp71]) ag79 (by rfl) (H.cells (i := 3) (by rfl)) (by rfl) (by rfl)) ?_
             refine RL_cons (O_store (i := 0) (off := 0) (by exact wn0 rfl) (by rfl) (by rfl) H (by rfl) (vs := [.slice A67 v65.1.Arena.Slots.length cp68, .slice A70 v65.1.Kids.length cp71]) (by rfl) sz79 (by rfl) (by rfl) (by rfl) (fun w79 (H : Sep ok w w79 [.blk b13 79 [.slice A67 v65.1.Arena.Slots.length cp68, .slice A70 v65.1.Kids.length cp71], .row (.slice A_row42_2 l_row42_2.length c_row42_2) 81 k_Handle.sz l_row42_2.length cs_row42_2, .blk b61 98 [.int .u8 el54.Kind, .int .i64 el54.A, .int .i64 el54.B, .int .i64 el54.At], .blk b73 79 [.slice A67 v65.1.Arena.Slots.length cp68, .slice A70 v65.1.Kids.length cp71], .blk b75 81 [.int .i64 v65.2.1.Slot, .int .i64 v65.2.1.Gen]] [RE.rd k_Slot A1 cp2 a0.Arena.Slots, RE.rd (Kd.slice k_Handle) A5 cp6 a0.Kids, RE.rd k_Act A9 cp10 a1, RE.chunks k_Handle cs_row42_2 l_row42_2, RE.rd k_Slot Ab13_0_2 cb13_0_2 b13_0_2, RE.rd (Kd.slice k_Handle) Ab13_1_2 cb13_1_2 b13_1_2, RE.rd k_Slot A67 cp68 v65.1.Arena.Slots, RE.rd (Kd.slice k_Handle) A70 cp71 v65.1.Kids]) => ?_))
             refine RL_nil ?_
             refine W_region ?_
             refine RL_pure (by exact wn0 rfl) (by rfl) (by rfl) (x_move (v := .slice A_row42_2 l_row42_2.length c_row42_2) (by rfl)) ?_
             refine RL_pure (by exact wn0 rfl) (by rfl) (by rfl) (x_loadA (j := 0) (vs := [.int .i64 v65.2.1.Slot, .int .i64 v65.2.1.Gen]) ag81 (by rfl) (H.cells (i := 4) (by rfl)) (by rfl) (by rfl)) ?_
             refine RL_cons (O_buildSlice (vs := [(0, .agg #[.int .i64 v65.2.1.Slot, .int .i64 v65.2.1.Gen])]) (cs := [.int .i64 v65.2.1.Slot, .int .i64 v65.2.1.Gen]) (by exact wn0 rfl) (by rfl) sl87 sz81 ze81 (by rfl) (by rfl) (by rfl) (by kernel_rfl) H (fun w81 b80 (H : Sep ok w w81 [.blk b13 79 [.slice A67 v65.1.Arena.Slots.length cp68, .slice A70 v65.1.Kids.length cp71], .row (.slice A_row42_2 l_row42_2.length c_row42_2) 81 k_Handle.sz l_row42_2.length cs_row42_2, .blk b61 98 [.int .u8 el54.Kind, .int .i64 el54.A, .int .i64 el54.B, .int .i64 el54.At], .blk b73 79 [.slice A67 v65.1.Arena.Slots.length cp68, .slice A70 v65.1.Kids.length cp71], .blk b75 81 [.int .i64 v65.2.1.Slot, .int .i64 v65.2.1.Gen], .blk b80 81 [.int .i64 v65.2.1.Slot, .int .i64 v65.2.1.Gen]] [RE.rd k_Slot A1 cp2 a0.Arena.Slots, RE.rd (Kd.slice k_Handle) A5 cp6 a0.Kids, RE.rd k_Act A9 cp10 a1, RE.chunks k_Handle cs_row42_2 l_row42_2, RE.rd k_Slot Ab13_0_2 cb13_0_2 b13_0_2, RE.rd (Kd.slice k_Handle) Ab13_1_2 cb13_1_2 b13_1_2, RE.rd k_Slot A67 cp68 v65.1.Arena.Slots, RE.rd (Kd.slice k_Handle) A70 cp71 v65.1.Kids]) => ?_))
             obtain ⟨l86, hl87, hb88, hm⟩ := apd_some hm
             refine RL_cons (O_append (D := k_Handle) (i := 1) (j := 3) (o := 0) (y := v65.2.1) (by exact wn0 rfl) (by rfl) (by rfl) (by rfl) H (by rfl) (by rfl) (H.cells (i := 5) (by rfl)) rfl hl87 sl87 sz81 by81 ze81 (by rfl) (by rfl) hb88 (by rfl) (fun w82 A83 cp84 cs85 (H : Sep ok w w82 [.blk b13 79 [.slice A67 v65.1.Arena.Slots.length cp68, .slice A70 v65.1.Kids.length cp71], .row (.slice A83 l86.length cp84) 81 k_Handle.sz l86.length cs85, .blk b61 98 [.int .u8 el54.Kind, .int .i64 el54.A, .int .i64 el54.B, .int .i64 el54.At], .blk b73 79 [.slice A67 v65.1.Arena.Slots.length cp68, .slice A70 v65.1.Kids.length cp71], .blk b75 81 [.int .i64 v65.2.1.Slot, .int .i64 v65.2.1.Gen], .blk b80 81 [.int .i64 v65.2.1.Slot, .int .i64 v65.2.1.Gen]] [RE.rd k_Slot A1 cp2 a0.Arena.Slots, RE.rd (Kd.slice k_Handle) A5 cp6 a0.Kids, RE.rd k_Act A9 cp10 a1, RE.chunks k_Handle cs85 l86, RE.rd k_Slot Ab13_0_2 cb13_0_2 b13_0_2, RE.rd (Kd.slice k_Handle) Ab13_1_2 cb13_1_2 b13_1_2, RE.rd k_Slot A67 cp68 v65.1.Arena.Slots, RE.rd (Kd.slice k_Handle) A70 cp71 v65.1.Kids]) => ?_))
             refine RL_pure (by exact wn0 rfl) (by rfl) (by rfl) (x_assign (v := .slice A83 l86.length cp84) (by rfl)) ?_
             refine RL_nil ?_
             refine W_exit ?_
             refine W_region ?_
             refine RL_pure (by exact wn0 rfl) (by rfl) (by rfl) (x_move (v := .int .i64 y8_2) (by rfl)) ?_
             obtain ⟨x89, ex89, qx89, ux89, hm⟩ := ck_some hm
             refine RL_pure (by exact wn0 rfl) (by rfl) (by rfl) (x_add (by rfl) (by rfl) ux89) ?_
             refine RL_pure (by exact wn0 rfl) (by rfl) (by rfl) (x_assign (v := .int .i64 x89) (by rfl)) ?_
             refine RL_nil ?_
             subst hrec2
             exact ⟨k2, Nat.lt_succ_self k2, l86, v65.1.Arena.Slots, v65.1.Kids, x89, A83, cp84, cs85, A67, cp68, A70, cp71, hm, ⟨rfl, rfl, rfl, rfl, trivial⟩, ((H).takeL 2).pick [0, 1, 2, 3, 6, 7]⟩
            ·have hm := cond_f hb hm
             refine W_skip ?_
             refine W_exit ?_
             refine W_region ?_
             refine RL_pure (by exact wn0 rfl) (by rfl) (by rfl) (x_move (v := .int .i64 y8_2) (by rfl)) ?_
             obtain ⟨x90, ex90, qx90, ux90, hm⟩ := ck_some hm
             refine RL_pure (by exact wn0 rfl) (by rfl) (by rfl) (x_add (by rfl) (by rfl) ux90) ?_
             refine RL_pure (by exact wn0 rfl) (by rfl) (by rfl) (x_assign (v := .int .i64 x90) (by rfl)) ?_
             refine RL_nil ?_
             subst hrec2
             exact ⟨k2, Nat.lt_succ_self k2, l_row42_2, b13_0_2, b13_1_2, x90, A_row42_2, c_row42_2, cs_row42_2, Ab13_0_2, cb13_0_2, Ab13_1_2, cb13_1_2, hm, ⟨rfl, rfl, rfl, rfl, trivial⟩, ((H).takeL 2).pick [0, 1, 2, 3, 4, 5]⟩
           ·have hm := cond_f hb hm
            refine W_skip ?_
            refine W_seq ?_
            refine W_seq ?_
            refine W_region ?_
            refine RL_pure (by exact wn0 rfl) (by rfl) (by rfl) (x_fieldAddr fo98_1 (by rfl)) ?_
            refine RL_pure (by exact wn0 rfl) (by rfl) (by rfl) (x_load (j := 1) (v := .int .i64 el54.A) sc3 (by rfl) (H.cells (i := 2) (by rfl)) (by rfl)) ?_
            refine RL_pure (by exact wn0 rfl) (by rfl) (by rfl) (x_lss (by rfl) (by rfl)) ?_
            refine RL_pure (by exact wn0 rfl) (by rfl) (by rfl) (x_move (v := .bool (decide (el54.A < 0))) (by rfl)) ?_
            obtain ⟨b91, hmS, hm⟩ := bind_some hm
            refine RL_cut 6 (fun r' w' => Agr [(91, .bool b91), (1, .slice A9 a1.length cp10), (2, .pointer (some ⟨b13, 0, none⟩)), (6, .slice A_row42_2 l_row42_2.length c_row42_2), (8, .int .i64 y8_2), (9, .pointer (some ⟨b61, 0, none⟩))] r' ∧ Sep ok w w' [.blk b13 79 [.slice Ab13_0_2 b13_0_2.length cb13_0_2, .slice Ab13_1_2 b13_1_2.length cb13_1_2], .row (.slice A_row42_2 l_row42_2.length c_row42_2) 81 k_Handle.sz l_row42_2.length cs_row42_2, .blk b61 98 [.int .u8 el54.Kind, .int .i64 el54.A, .int .i64 el54.B, .int .i64 el54.At]] [RE.rd k_Slot A1 cp2 a0.Arena.Slots, RE.rd (Kd.slice k_Handle) A5 cp6 a0.Kids, RE.rd k_Act A9 cp10 a1, RE.chunks k_Handle cs_row42_2 l_row42_2, RE.rd k_Slot Ab13_0_2 cb13_0_2 b13_0_2, RE.rd (Kd.slice k_Handle) Ab13_1_2 cb13_1_2 b13_1_2]) ?_ ?_
            ·cases hbS : (decide (el54.A < 0))
             ·have hm := cond_f hbS hmS
              refine RL_pure (by exact wn1 rfl rfl rfl rfl) (by rfl) (by rfl) (x_fieldAddr fo98_1 (by rfl)) ?_
              refine RL_pure (by exact wn1 rfl rfl rfl rfl) (by rfl) (by rfl) (x_load (j := 1) (v := .int .i64 el54.A) sc3 (by rfl) (H.cells (i := 2) (by rfl)) (by rfl)) ?_
              refine RL_pure (by exact wn1 rfl rfl rfl rfl) (by rfl) (by rfl) (x_move (v := .slice A_row42_2 l_row42_2.length c_row42_2) (by rfl)) ?_
              refine RL_pure (by exact wn1 rfl rfl rfl rfl) (by rfl) (by rfl) (x_len sl87 (by rfl)) ?_
              refine RL_pure (by exact wn1 rfl rfl rfl rfl) (by rfl) (by rfl) (x_geq (by rfl) (by rfl)) ?_
              refine RL_pure (by exact wn0 rfl) (by rfl) (by rfl) (x_pick_f (v := .bool (decide ((l_row42_2.length : Int) ≤ el54.A))) (by rfl) (by rfl)) ?_
              refine RL_nil ?_
              exact ⟨⟨congrArg Value.bool (Option.some.inj hm), rfl, rfl, rfl, rfl, rfl, trivial⟩, H⟩
             ·have hm := cond_t hbS hmS
              refine RL_cons (OpR_off (by exact wn2 rfl rfl rfl rfl) (by rfl) (by rfl) ?_)
              refine RL_cons (OpR_off (by exact wn2 rfl rfl rfl rfl) (by rfl) (by rfl) ?_)
              refine RL_cons (OpR_off (by exact wn2 rfl rfl rfl rfl) (by rfl) (by rfl) ?_)
              refine RL_cons (OpR_off (by exact wn2 rfl rfl rfl rfl) (by rfl) (by rfl) ?_)
              refine RL_cons (OpR_off (by exact wn2 rfl rfl rfl rfl) (by rfl) (by rfl) ?_)
              refine RL_pure (by exact wn0 rfl) (by rfl) (by rfl) (x_pick_t (v := .bool true) (by rfl) (by rfl)) ?_
              refine RL_nil ?_
              exact ⟨⟨congrArg Value.bool (Option.some.inj hm), rfl, rfl, rfl, rfl, rfl, trivial⟩, H⟩
            ·rintro r' w' ⟨hA, H⟩
             obtain ⟨r92, rfl⟩ := regen _ hA; clear hA
             obtain ⟨w93, rfl⟩ : ∃ W : World, W = w' := ⟨_, rfl⟩
             show RL _ _ _ _ _ _ _
             refine RL_pure (by exact wn0 rfl) (by rfl) (by rfl) (x_move (v := .bool b91) (by rfl)) ?_
             obtain ⟨b94, hmS, hm⟩ := bind_some hm
             refine RL_cut 4 (fun r' w' => Agr [(96, .bool b94), (1, .slice A9 a1.length cp10), (2, .pointer (some ⟨b13, 0, none⟩)), (6, .slice A_row42_2 l_row42_2.length c_row42_2), (8, .int .i64 y8_2), (9, .pointer (some ⟨b61, 0, none⟩))] r' ∧ Sep ok w w' [.blk b13 79 [.slice Ab13_0_2 b13_0_2.length cb13_0_2, .slice Ab13_1_2 b13_1_2.length cb13_1_2], .row (.slice A_row42_2 l_row42_2.length c_row42_2) 81 k_Handle.sz l_row42_2.length cs_row42_2, .blk b61 98 [.int .u8 el54.Kind, .int .i64 el54.A, .int .i64 el54.B, .int .i64 el54.At]] [RE.rd k_Slot A1 cp2 a0.Arena.Slots, RE.rd (Kd.slice k_Handle) A5 cp6 a0.Kids, RE.rd k_Act A9 cp10 a1, RE.chunks k_Handle cs_row42_2 l_row42_2, RE.rd k_Slot Ab13_0_2 cb13_0_2 b13_0_2, RE.rd (Kd.slice k_Handle) Ab13_1_2 cb13_1_2 b13_1_2]) ?_ ?_
             ·cases hbS : b91
              ·have hm := cond_f hbS hmS
               refine RL_pure (by exact wn1 rfl rfl rfl rfl) (by rfl) (by rfl) (x_fieldAddr fo98_2 (by rfl)) ?_
               refine RL_pure (by exact wn1 rfl rfl rfl rfl) (by rfl) (by rfl) (x_load (j := 2) (v := .int .i64 el54.B) sc3 (by rfl) (H.cells (i := 2) (by rfl)) (by rfl)) ?_
               refine RL_pure (by exact wn1 rfl rfl rfl rfl) (by rfl) (by rfl) (x_lss (by rfl) (by rfl)) ?_
               refine RL_pure (by exact wn0 rfl) (by rfl) (by rfl) (x_pick_f (v := .bool (decide (el54.B < 0))) (by rfl) (by rfl)) ?_
               refine RL_nil ?_
               exact ⟨⟨congrArg Value.bool (Option.some.inj hm), rfl, rfl, rfl, rfl, rfl, trivial⟩, H⟩
              ·have hm := cond_t hbS hmS
               refine RL_cons (OpR_off (by exact wn2 rfl rfl rfl rfl) (by rfl) (by rfl) ?_)
               refine RL_cons (OpR_off (by exact wn2 rfl rfl rfl rfl) (by rfl) (by rfl) ?_)
               refine RL_cons (OpR_off (by exact wn2 rfl rfl rfl rfl) (by rfl) (by rfl) ?_)
               refine RL_pure (by exact wn0 rfl) (by rfl) (by rfl) (x_pick_t (v := .bool true) (by rfl) (by rfl)) ?_
               refine RL_nil ?_
               exact ⟨⟨congrArg Value.bool (Option.some.inj hm), rfl, rfl, rfl, rfl, rfl, trivial⟩, H⟩
             ·rintro r' w' ⟨hA, H⟩
              obtain ⟨r95, rfl⟩ := regen _ hA; clear hA
              obtain ⟨w96, rfl⟩ : ∃ W : World, W = w' := ⟨_, rfl⟩
              show RL _ _ _ _ _ _ _
              refine RL_pure (by exact wn0 rfl) (by rfl) (by rfl) (x_move (v := .bool b94) (by rfl)) ?_
              obtain ⟨b97, hmS, hm⟩ := bind_some hm
              refine RL_cut 6 (fun r' w' => Agr [(103, .bool b97), (1, .slice A9 a1.length cp10), (2, .pointer (some ⟨b13, 0, none⟩)), (6, .slice A_row42_2 l_row42_2.length c_row42_2), (8, .int .i64 y8_2), (9, .pointer (some ⟨b61, 0, none⟩))] r' ∧ Sep ok w w' [.blk b13 79 [.slice Ab13_0_2 b13_0_2.length cb13_0_2, .slice Ab13_1_2 b13_1_2.length cb13_1_2], .row (.slice A_row42_2 l_row42_2.length c_row42_2) 81 k_Handle.sz l_row42_2.length cs_row42_2, .blk b61 98 [.int .u8 el54.Kind, .int .i64 el54.A, .int .i64 el54.B, .int .i64 el54.At]] [RE.rd k_Slot A1 cp2 a0.Arena.Slots, RE.rd (Kd.slice k_Handle) A5 cp6 a0.Kids, RE.rd k_Act A9 cp10 a1, RE.chunks k_Handle cs_row42_2 l_row42_2, RE.rd k_Slot Ab13_0_2 cb13_0_2 b13_0_2, RE.rd (Kd.slice k_Handle) Ab13_1_2 cb13_1_2 b13_1_2]) ?_ ?_
              ·cases hbS : b94
               ·have hm := cond_f hbS hmS
                refine RL_pure (by exact wn1 rfl rfl rfl rfl) (by rfl) (by rfl) (x_fieldAddr fo98_2 (by rfl)) ?_
                refine RL_pure (by exact wn1 rfl rfl rfl rfl) (by rfl) (by rfl) (x_load (j := 2) (v := .int .i64 el54.B) sc3 (by rfl) (H.cells (i := 2) (by rfl)) (by rfl)) ?_
                refine RL_pure (by exact wn1 rfl rfl rfl rfl) (by rfl) (by rfl) (x_move (v := .slice A_row42_2 l_row42_2.length c_row42_2) (by rfl)) ?_
                refine RL_pure (by exact wn1 rfl rfl rfl rfl) (by rfl) (by rfl) (x_len sl87 (by rfl)) ?_
                refine RL_pure (by exact wn1 rfl rfl rfl rfl) (by rfl) (by rfl) (x_geq (by rfl) (by rfl)) ?_
                refine RL_pure (by exact wn0 rfl) (by rfl) (by rfl) (x_pick_f (v := .bool (decide ((l_row42_2.length : Int) ≤ el54.B))) (by rfl) (by rfl)) ?_
                refine RL_nil ?_
                exact ⟨⟨congrArg Value.bool (Option.some.inj hm), rfl, rfl, rfl, rfl, rfl, trivial⟩, H⟩
               ·have hm := cond_t hbS hmS
                refine RL_cons (OpR_off (by exact wn2 rfl rfl rfl rfl) (by rfl) (by rfl) ?_)
                refine RL_cons (OpR_off (by exact wn2 rfl rfl rfl rfl) (by rfl) (by rfl) ?_)
                refine RL_cons (OpR_off (by exact wn2 rfl rfl rfl rfl) (by rfl) (by rfl) ?_)
                refine RL_cons (OpR_off (by exact wn2 rfl rfl rfl rfl) (by rfl) (by rfl) ?_)
                refine RL_cons (OpR_off (by exact wn2 rfl rfl rfl rfl) (by rfl) (by rfl) ?_)
                refine RL_pure (by exact wn0 rfl) (by rfl) (by rfl) (x_pick_t (v := .bool true) (by rfl) (by rfl)) ?_
                refine RL_nil ?_
                exact ⟨⟨congrArg Value.bool (Option.some.inj hm), rfl, rfl, rfl, rfl, rfl, trivial⟩, H⟩
              ·rintro r' w' ⟨hA, H⟩
               obtain ⟨r98, rfl⟩ := regen _ hA; clear hA
               obtain ⟨w99, rfl⟩ : ∃ W : World, W = w' := ⟨_, rfl⟩
               show RL _ _ _ _ _ _ _
               refine RL_nil ?_
               refine W_cond (by rfl) (fun hb => ?_) (fun hb => ?_)
               ·have hm := cond_t hb hm
                refine W_exit ?_
                refine W_region ?_
                refine RL_pure (by exact wn0 rfl) (by rfl) (by rfl) (x_move (v := .int .i64 y8_2) (by rfl)) ?_
                obtain ⟨x100, ex100, qx100, ux100, hm⟩ := ck_some hm
                refine RL_pure (by exact wn0 rfl) (by rfl) (by rfl) (x_add (by rfl) (by rfl) ux100) ?_
                refine RL_pure (by exact wn0 rfl) (by rfl) (by rfl) (x_assign (v := .int .i64 x100) (by rfl)) ?_
                refine RL_nil ?_
                subst hrec2
                exact ⟨k2, Nat.lt_succ_self k2, l_row42_2, b13_0_2, b13_1_2, x100, A_row42_2, c_row42_2, cs_row42_2, Ab13_0_2, cb13_0_2, Ab13_1_2, cb13_1_2, hm, ⟨rfl, rfl, rfl, rfl, trivial⟩, (H).takeL 2⟩
               ·have hm := cond_f hb hm
                refine W_skip ?_
                refine W_seq ?_
                refine W_region ?_
                refine RL_pure (by exact wn0 rfl) (by rfl) (by rfl) (x_loadA (j := 0) (vs := [.slice Ab13_0_2 b13_0_2.length cb13_0_2, .slice Ab13_1_2 b13_1_2.length cb13_1_2]) ag79 (by rfl) (H.cells (i := 0) (by rfl)) (by rfl) (by rfl)) ?_
                refine RL_cons (O_alloc (by exact wn0 rfl) (by rfl) ze79 (by rfl) H (fun w102 b101 (H : Sep ok w w102 [.blk b13 79 [.slice Ab13_0_2 b13_0_2.length cb13_0_2, .slice Ab13_1_2 b13_1_2.length cb13_1_2], .row (.slice A_row42_2 l_row42_2.length c_row42_2) 81 k_Handle.sz l_row42_2.length cs_row42_2, .blk b61 98 [.int .u8 el54.Kind, .int .i64 el54.A, .int .i64 el54.B, .int .i64 el54.At], .blk b101 79 [.slice none 0 0, .slice none 0 0]] [RE.rd k_Slot A1 cp2 a0.Arena.Slots, RE.rd (Kd.slice k_Handle) A5 cp6 a0.Kids, RE.rd k_Act A9 cp10 a1, RE.chunks k_Handle cs_row42_2 l_row42_2, RE.rd k_Slot Ab13_0_2 cb13_0_2 b13_0_2, RE.rd (Kd.slice k_Handle) Ab13_1_2 cb13_1_2 b13_1_2]) => ?_))
                refine RL_cons (O_store (i := 3) (off := 0) (by exact wn0 rfl) (by rfl) (by rfl) H (by rfl) (vs := [.slice Ab13_0_2 b13_0_2.length cb13_0_2, .slice Ab13_1_2 b13_1_2.length cb13_1_2]) (by rfl) sz79 (by rfl) (by rfl) (by rfl) (fun w103 (H : Sep ok w w103 [.blk b13 79 [.slice Ab13_0_2 b13_0_2.length cb13_0_2, .slice Ab13_1_2 b13_1_2.length cb13_1_2], .row (.slice A_row42_2 l_row42_2.length c_row42_2) 81 k_Handle.sz l_row42_2.length cs_row42_2, .blk b61 98 [.int .u8 el54.Kind, .int .i64 el54.A, .int .i64 el54.B, .int .i64 el54.At], .blk b101 79 [.slice Ab13_0_2 b13_0_2.length cb13_0_2, .slice Ab13_1_2 b13_1_2.length cb13_1_2]] [RE.rd k_Slot A1 cp2 a0.Arena.Slots, RE.rd (Kd.slice k_Handle) A5 cp6 a0.Kids, RE.rd k_Act A9 cp10 a1, RE.chunks k_Handle cs_row42_2 l_row42_2, RE.rd k_Slot Ab13_0_2 cb13_0_2 b13_0_2, RE.rd (Kd.slice k_Handle) Ab13_1_2 cb13_1_2 b13_1_2]) => ?_))
                refine RL_pure (by exact wn0 rfl) (by rfl) (by rfl) (x_assign (v := .int .i64 0) (by rfl)) ?_
                refine RL_nil ?_
                refine W_join (fun r' w' => ∃ (b101_0_3 : (List S_Slot)), ∃ (b101_1_3 : (List (List S_Handle))), ∃ (y14_3 : Int), ∃ (A_row42_2 : Option Addr), ∃ (c_row42_2 : Nat), ∃ (cs_row42_2 : List Value), ∃ (Ab13_0_2 : Option Addr), ∃ (cb13_0_2 : Nat), ∃ (Ab13_1_2 : Option Addr), ∃ (cb13_1_2 : Nat), ∃ (Ab101_0_3 : Option Addr), ∃ (cb101_0_3 : Nat), ∃ (Ab101_1_3 : Option Addr), ∃ (cb101_1_3 : Nat), m9_j3 K l_row42_2 b13_0_2 b13_1_2 y8_2 rec2 b101_0_3 b101_1_3 y14_3 = some res ∧ Agr [(1, .slice A9 a1.length cp10), (2, .pointer (some ⟨b13, 0, none⟩)), (6, .slice A_row42_2 l_row42_2.length c_row42_2), (8, .int .i64 y8_2), (13, .pointer (some ⟨b101, 0, none⟩)), (14, .int .i64 y14_3)] r' ∧ Sep ok w w' [.blk b13 79 [.slice Ab13_0_2 b13_0_2.length cb13_0_2, .slice Ab13_1_2 b13_1_2.length cb13_1_2], .row (.slice A_row42_2 l_row42_2.length c_row42_2) 81 k_Handle.sz l_row42_2.length cs_row42_2, .blk b61 98 [.int .u8 el54.Kind, .int .i64 el54.A, .int .i64 el54.B, .int .i64 el54.At], .blk b101 79 [.slice Ab101_0_3 b101_0_3.length cb101_0_3, .slice Ab101_1_3 b101_1_3.length cb101_1_3]] [RE.rd k_Slot A1 cp2 a0.Arena.Slots, RE.rd (Kd.slice k_Handle) A5 cp6 a0.Kids, RE.rd k_Act A9 cp10 a1, RE.chunks k_Handle cs_row42_2 l_row42_2, RE.rd k_Slot Ab13_0_2 cb13_0_2 b13_0_2, RE.rd (Kd.slice k_Handle) Ab13_1_2 cb13_1_2 b13_1_2, RE.rd k_Slot Ab101_0_3 cb101_0_3 b101_0_3, RE.rd (Kd.slice k_Handle) Ab101_1_3 cb101_1_3 b101_1_3]) ?_ ?_
                ·show W _ _ _ _ _ _
                 refine W_seq ?_
                 refine W_region ?_
                 refine RL_pure (by exact wn0 rfl) (by rfl) (by rfl) (x_fieldAddr fo98_0 (by rfl)) ?_
                 refine RL_pure (by exact wn0 rfl) (by rfl) (by rfl) (x_load (j := 0) (v := .int .u8 el54.Kind) sc5 (by rfl) (H.cells (i := 2) (by rfl)) (by rfl)) ?_
                 refine RL_pure (by exact wn0 rfl) (by rfl) (by rfl) (x_rem (by rfl) (by rfl) (by decide)) ?_
                 refine RL_nil ?_
                 refine W_block ?_
                 refine W_seq ?_
                 refine W_region ?_
                 refine RL_pure (by exact wn0 rfl) (by rfl) (by rfl) (x_eql (by rfl) (by rfl)) ?_
                 refine RL_pure (by exact wn0 rfl) (by rfl) (by rfl) (x_assign (v := .bool ((Int.tmod el54.Kind 5) == 1)) (by rfl)) ?_
                 refine RL_nil ?_
                 refine W_cond (by rfl) (fun hb => ?_) (fun hb => ?_)
                 ·have hm := cond_t hb hm
                  refine W_draw [.take 0, .free 1, .free 2, .take 3, .free 4, .take 5, .run 6, .free 7, .free 8, .free 9, .tail 10, .free 11] (fun wS => Sep ok w wS [.blk b13 79 [.slice Ab13_0_2 b13_0_2.length cb13_0_2, .slice Ab13_1_2 b13_1_2.length cb13_1_2], .row (.slice A_row42_2 l_row42_2.length c_row42_2) 81 k_Handle.sz l_row42_2.length cs_row42_2, .blk b61 98 [.int .u8 el54.Kind, .int .i64 el54.A, .int .i64 el54.B, .int .i64 el54.At], .blk b101 79 [.slice Ab13_0_2 b13_0_2.length cb13_0_2, .slice Ab13_1_2 b13_1_2.length cb13_1_2]] [RE.rd k_Slot A1 cp2 a0.Arena.Slots, RE.rd (Kd.slice k_Handle) A5 cp6 a0.Kids, RE.rd k_Act A9 cp10 a1, RE.chunks k_Handle cs_row42_2 l_row42_2, RE.rd k_Slot Ab13_0_2 cb13_0_2 b13_0_2, RE.rd (Kd.slice k_Handle) Ab13_1_2 cb13_1_2 b13_1_2]) [10] [1, 2, 4, 7, 8, 9, 11] mixed0 (by kernel_rfl) (by kernel_rfl) (by kernel_rfl) (by rfl) (by exact H.drew) ?_
                  obtain ⟨w104, hW⟩ : ∃ W : World, W = { w103 with drawn := w103.drawn + 1 } := ⟨_, rfl⟩
                  rw [← hW]
                  have H : Sep ok w w104 [.blk b13 79 [.slice Ab13_0_2 b13_0_2.length cb13_0_2, .slice Ab13_1_2 b13_1_2.length cb13_1_2], .row (.slice A_row42_2 l_row42_2.length c_row42_2) 81 k_Handle.sz l_row42_2.length cs_row42_2, .blk b61 98 [.int .u8 el54.Kind, .int .i64 el54.A, .int .i64 el54.B, .int .i64 el54.At], .blk b101 79 [.slice Ab13_0_2 b13_0_2.length cb13_0_2, .slice Ab13_1_2 b13_1_2.length cb13_1_2]] [RE.rd k_Slot A1 cp2 a0.Arena.Slots, RE.rd (Kd.slice k_Handle) A5 cp6 a0.Kids, RE.rd k_Act A9 cp10 a1, RE.chunks k_Handle cs_row42_2 l_row42_2, RE.rd k_Slot Ab13_0_2 cb13_0_2 b13_0_2, RE.rd (Kd.slice k_Handle) Ab13_1_2 cb13_1_2 b13_1_2] := by rw [hW]; exact H.drew
                  clear hW
                  refine PR_take (by rfl) (by rfl) (by rfl) (by exact wn0 rfl) (fun wS (H : Sep ok w wS [.blk b13 79 [.slice Ab13_0_2 b13_0_2.length cb13_0_2, .slice Ab13_1_2 b13_1_2.length cb13_1_2], .row (.slice A_row42_2 l_row42_2.length c_row42_2) 81 k_Handle.sz l_row42_2.length cs_row42_2, .blk b61 98 [.int .u8 el54.Kind, .int .i64 el54.A, .int .i64 el54.B, .int .i64 el54.At], .blk b101 79 [.slice Ab13_0_2 b13_0_2.length cb13_0_2, .slice Ab13_1_2 b13_1_2.length cb13_1_2]] [RE.rd k_Slot A1 cp2 a0.Arena.Slots, RE.rd (Kd.slice k_Handle) A5 cp6 a0.Kids, RE.rd k_Act A9 cp10 a1, RE.chunks k_Handle cs_row42_2 l_row42_2, RE.rd k_Slot Ab13_0_2 cb13_0_2 b13_0_2, RE.rd (Kd.slice k_Handle) Ab13_1_2 cb13_1_2 b13_1_2]) => (x_loadA (j := 0) (vs := [.slice Ab13_0_2 b13_0_2.length cb13_0_2, .slice Ab13_1_2 b13_1_2.length cb13_1_2]) ag79 (by rfl) (H.cells (i := 0) (by rfl)) (by rfl) (by rfl))) ?_
                  refine PR_free (by rfl) (by rfl) (by rfl) (by exact wn0 rfl) (fun wS => (x_move (v := .slice A_row42_2 l_row42_2.length c_row42_2) (by rfl))) ?_
                  refine PR_free (by rfl) (by rfl) (by rfl) (by exact wn0 rfl) (fun wS => (x_fieldAddr fo98_1 (by rfl))) ?_
                  refine PR_take (by rfl) (by rfl) (by rfl) (by exact wn0 rfl) (fun wS (H : Sep ok w wS [.blk b13 79 [.slice Ab13_0_2 b13_0_2.length cb13_0_2, .slice Ab13_1_2 b13_1_2.length cb13_1_2], .row (.slice A_row42_2 l_row42_2.length c_row42_2) 81 k_Handle.sz l_row42_2.length cs_row42_2, .blk b61 98 [.int .u8 el54.Kind, .int .i64 el54.A, .int .i64 el54.B, .int .i64 el54.At], .blk b101 79 [.slice Ab13_0_2 b13_0_2.length cb13_0_2, .slice Ab13_1_2 b13_1_2.length cb13_1_2]] [RE.rd k_Slot A1 cp2 a0.Arena.Slots, RE.rd (Kd.slice k_Handle) A5 cp6 a0.Kids, RE.rd k_Act A9 cp10 a1, RE.chunks k_Handle cs_row42_2 l_row42_2, RE.rd k_Slot Ab13_0_2 cb13_0_2 b13_0_2, RE.rd (Kd.slice k_Handle) Ab13_1_2 cb13_1_2 b13_1_2]) => (x_load (j := 1) (v := .int .i64 el54.A) sc3 (by rfl) (H.cells (i := 2) (by rfl)) (by rfl))) ?_
                  obtain ⟨el105, h106, h107, he108, hm⟩ := idx_some hm
                  obtain ⟨g110, _, hA109, _, _⟩ := H.rowIdx (i := 1) (j := 3) (by rfl) (by rfl) he108
                  refine PR_free (by rfl) (by rfl) (by rfl) (by exact wn0 rfl) (fun wS => (x_indexAddr sl87 sz81 (by rfl) (by rfl) hA109 h106 h107)) ?_
                  refine PR_take (by rfl) (by rfl) (by rfl) (by exact wn0 rfl) (fun wS (H : Sep ok w wS [.blk b13 79 [.slice Ab13_0_2 b13_0_2.length cb13_0_2, .slice Ab13_1_2 b13_1_2.length cb13_1_2], .row (.slice A_row42_2 l_row42_2.length c_row42_2) 81 k_Handle.sz l_row42_2.length cs_row42_2, .blk b61 98 [.int .u8 el54.Kind, .int .i64 el54.A, .int .i64 el54.B, .int .i64 el54.At], .blk b101 79 [.slice Ab13_0_2 b13_0_2.length cb13_0_2, .slice Ab13_1_2 b13_1_2.length cb13_1_2]] [RE.rd k_Slot A1 cp2 a0.Arena.Slots, RE.rd (Kd.slice k_Handle) A5 cp6 a0.Kids, RE.rd k_Act A9 cp10 a1, RE.chunks k_Handle cs_row42_2 l_row42_2, RE.rd k_Slot Ab13_0_2 cb13_0_2 b13_0_2, RE.rd (Kd.slice k_Handle) Ab13_1_2 cb13_1_2 b13_1_2]) => (x_loadA (j := 0) (vs := [.int .i64 el105.Slot, .int .i64 el105.Gen]) ag81 (by rfl) (H.rowFlatAt (n := 2) (i := 1) (j := 3) (by rfl) (by rfl) hA109 he108) (by rfl) (by rfl))) ?_
                  obtain ⟨v113, hv112, hm⟩ := bind_some hm
                  refine PR_run (by rfl) (O_call (by exact wn0 rfl) (by rfl) (by rfl) (x_callL (by rfl) (args := [.agg #[.slice Ab13_0_2 b13_0_2.length cb13_0_2, .slice Ab13_1_2 b13_1_2.length cb13_1_2], .agg #[.int .i64 el105.Slot, .int .i64 el105.Gen]]) (by rfl) (cf40 _ _)) (c40 (okS ok w [.blk b13 79 [.slice Ab13_0_2 b13_0_2.length cb13_0_2, .slice Ab13_1_2 b13_1_2.length cb13_1_2], .row (.slice A_row42_2 l_row42_2.length c_row42_2) 81 k_Handle.sz l_row42_2.length cs_row42_2, .blk b61 98 [.int .u8 el54.Kind, .int .i64 el54.A, .int .i64 el54.B, .int .i64 el54.At], .blk b101 79 [.slice Ab13_0_2 b13_0_2.length cb13_0_2, .slice Ab13_1_2 b13_1_2.length cb13_1_2]]) K w104 (⟨(⟨b13_0_2⟩ : S_Arena), b13_1_2⟩ : S_Graph) Ab13_0_2 cb13_0_2 Ab13_1_2 cb13_1_2 el105 (H.rd (i := 4) (by rfl)) (H.rd (i := 5) (by rfl)) v113 hv112) ?_)
                  rintro e w114 ⟨A115, cp116, A118, cp119, rfl, H2⟩
                  have H : Sep ok w w114 [.blk b13 79 [.slice Ab13_0_2 b13_0_2.length cb13_0_2, .slice Ab13_1_2 b13_1_2.length cb13_1_2], .row (.slice A_row42_2 l_row42_2.length c_row42_2) 81 k_Handle.sz l_row42_2.length cs_row42_2, .blk b61 98 [.int .u8 el54.Kind, .int .i64 el54.A, .int .i64 el54.B, .int .i64 el54.At], .blk b101 79 [.slice Ab13_0_2 b13_0_2.length cb13_0_2, .slice Ab13_1_2 b13_1_2.length cb13_1_2]] [RE.rd k_Slot A1 cp2 a0.Arena.Slots, RE.rd (Kd.slice k_Handle) A5 cp6 a0.Kids, RE.rd k_Act A9 cp10 a1, RE.chunks k_Handle cs_row42_2 l_row42_2, RE.rd k_Slot Ab13_0_2 cb13_0_2 b13_0_2, RE.rd (Kd.slice k_Handle) Ab13_1_2 cb13_1_2 b13_1_2, RE.rd k_Slot A115 cp116 v113.1.Arena.Slots, RE.rd (Kd.slice k_Handle) A118 cp119 v113.1.Kids] := H.call H2
                  clear H2
                  refine ⟨_, rfl, (Sep.takeR H 6), ?_⟩
                  show PR _ _ _ _ _ _ _ _
                  refine PR_free (by rfl) (by rfl) (by rfl) (by exact wn0 rfl) (fun wS => (x_move (v := tup [.agg #[.slice A115 v113.1.Arena.Slots.length cp116, .slice A118 v113.1.Kids.length cp119], .int .i64 v113.2]) (by rfl))) ?_
                  refine PR_free (by rfl) (by rfl) (by rfl) (by exact wn0 rfl) (fun wS => (x_extract (v := .agg #[.slice A115 v113.1.Arena.Slots.length cp116, .slice A118 v113.1.Kids.length cp119]) (by rfl) (by rfl))) ?_
                  refine PR_free (by rfl) (by rfl) (by rfl) (by exact wn0 rfl) (fun wS => (x_extract (v := .int .i64 v113.2) (by rfl) (by rfl))) ?_
                  refine PR_tail (by rfl) (O_store (i := 3) (off := 0) (by exact wn0 rfl) (by rfl) (by rfl) H (by rfl) (vs := [.slice A115 v113.1.Arena.Slots.length cp116, .slice A118 v113.1.Kids.length cp119]) (by rfl) sz79 (by rfl) (by rfl) (by rfl) (fun w121 (H : Sep ok w w121 [.blk b13 79 [.slice Ab13_0_2 b13_0_2.length cb13_0_2, .slice Ab13_1_2 b13_1_2.length cb13_1_2], .row (.slice A_row42_2 l_row42_2.length c_row42_2) 81 k_Handle.sz l_row42_2.length cs_row42_2, .blk b61 98 [.int .u8 el54.Kind, .int .i64 el54.A, .int .i64 el54.B, .int .i64 el54.At], .blk b101 79 [.slice A115 v113.1.Arena.Slots.length cp116, .slice A118 v113.1.Kids.length cp119]] [RE.rd k_Slot A1 cp2 a0.Arena.Slots, RE.rd (Kd.slice k_Handle) A5 cp6 a0.Kids, RE.rd k_Act A9 cp10 a1, RE.chunks k_Handle cs_row42_2 l_row42_2, RE.rd k_Slot Ab13_0_2 cb13_0_2 b13_0_2, RE.rd (Kd.slice k_Handle) Ab13_1_2 cb13_1_2 b13_1_2, RE.rd k_Slot A115 cp116 v113.1.Arena.Slots, RE.rd (Kd.slice k_Handle) A118 cp119 v113.1.Kids]) => ?_))
                  refine PR_free (by rfl) (by rfl) (by rfl) (by exact wn0 rfl) (fun wS => (x_assign (v := .int .i64 v113.2) (by rfl))) ?_
                  refine PR_nil ?_
                  exact ⟨v113.1.Arena.Slots, v113.1.Kids, v113.2, A_row42_2, c_row42_2, cs_row42_2, Ab13_0_2, cb13_0_2, Ab13_1_2, cb13_1_2, A115, cp116, A118, cp119, hm, ⟨rfl, rfl, rfl, rfl, rfl, rfl, trivial⟩, H⟩
                 ·have hm := cond_f hb hm
                  refine W_join (fun r' w' => ∃ (y132_4 : Bool), ∃ (A_row42_2 : Option Addr), ∃ (c_row42_2 : Nat), ∃ (cs_row42_2 : List Value), ∃ (Ab13_0_2 : Option Addr), ∃ (cb13_0_2 : Nat), ∃ (Ab13_1_2 : Option Addr), ∃ (cb13_1_2 : Nat), m9_j4 K l_row42_2 b13_0_2 b13_1_2 y8_2 rec2 el54 y132_4 = some res ∧ Agr [(1, .slice A9 a1.length cp10), (2, .pointer (some ⟨b13, 0, none⟩)), (6, .slice A_row42_2 l_row42_2.length c_row42_2), (8, .int .i64 y8_2), (9, .pointer (some ⟨b61, 0, none⟩)), (13, .pointer (some ⟨b101, 0, none⟩)), (132, .bool y132_4)] r' ∧ Sep ok w w' [.blk b13 79 [.slice Ab13_0_2 b13_0_2.length cb13_0_2, .slice Ab13_1_2 b13_1_2.length cb13_1_2], .row (.slice A_row42_2 l_row42_2.length c_row42_2) 81 k_Handle.sz l_row42_2.length cs_row42_2, .blk b61 98 [.int .u8 el54.Kind, .int .i64 el54.A, .int .i64 el54.B, .int .i64 el54.At], .blk b101 79 [.slice Ab13_0_2 b13_0_2.length cb13_0_2, .slice Ab13_1_2 b13_1_2.length cb13_1_2]] [RE.rd k_Slot A1 cp2 a0.Arena.Slots, RE.rd (Kd.slice k_Handle) A5 cp6 a0.Kids, RE.rd k_Act A9 cp10 a1, RE.chunks k_Handle cs_row42_2 l_row42_2, RE.rd k_Slot Ab13_0_2 cb13_0_2 b13_0_2, RE.rd (Kd.slice k_Handle) Ab13_1_2 cb13_1_2 b13_1_2]) ?_ ?_
                  ·show W _ _ _ _ _ _
                   refine W_seq ?_
                   refine W_region ?_
                   refine RL_pure (by exact wn0 rfl) (by rfl) (by rfl) (x_eql (by rfl) (by rfl)) ?_
                   refine RL_pure (by exact wn0 rfl) (by rfl) (by rfl) (x_assign (v := .bool ((Int.tmod el54.Kind 5) == 2)) (by rfl)) ?_
                   refine RL_nil ?_
                   refine W_cond (by rfl) (fun hb => ?_) (fun hb => ?_)
                   ·have hm := cond_t hb hm
                    refine W_skip ?_
                    exact ⟨((Int.tmod el54.Kind 5) == 2), A_row42_2, c_row42_2, cs_row42_2, Ab13_0_2, cb13_0_2, Ab13_1_2, cb13_1_2, hm, ⟨rfl, rfl, rfl, rfl, rfl, rfl, rfl, trivial⟩, H⟩
                   ·have hm := cond_f hb hm
                    refine W_region ?_
                    refine RL_pure (by exact wn0 rfl) (by rfl) (by rfl) (x_eql (by rfl) (by rfl)) ?_
                    refine RL_pure (by exact wn0 rfl) (by rfl) (by rfl) (x_assign (v := .bool ((Int.tmod el54.Kind 5) == 3)) (by rfl)) ?_
                    refine RL_nil ?_
                    exact ⟨((Int.tmod el54.Kind 5) == 3), A_row42_2, c_row42_2, cs_row42_2, Ab13_0_2, cb13_0_2, Ab13_1_2, cb13_1_2, hm, ⟨rfl, rfl, rfl, rfl, rfl, rfl, rfl, trivial⟩, H⟩
                  ·rintro r' w' ⟨y132_4, A_row42_2, c_row42_2, cs_row42_2, Ab13_0_2, cb13_0_2, Ab13_1_2, cb13_1_2, hm, hA, H⟩
                   obtain ⟨r122, rfl⟩ := regen _ hA; clear hA
                   obtain ⟨w123, rfl⟩ : ∃ W : World, W = w' := ⟨_, rfl⟩
                   unfold m9_j4 at hm
                   refine W_cond (by rfl) (fun hb => ?_) (fun hb => ?_)
                   ·have hm := cond_t hb hm
                    refine W_seq ?_
                    refine W_draw [.take 0, .free 1, .free 2, .take 3, .free 4, .take 5, .free 6, .free 7, .take 8, .free 9, .take 10, .free 11, .take 12, .run 13, .free 14, .free 15, .free 16, .tail 17, .free 18] (fun wS => Sep ok w wS [.blk b13 79 [.slice Ab13_0_2 b13_0_2.length cb13_0_2, .slice Ab13_1_2 b13_1_2.length cb13_1_2], .row (.slice A_row42_2 l_row42_2.length c_row42_2) 81 k_Handle.sz l_row42_2.length cs_row42_2, .blk b61 98 [.int .u8 el54.Kind, .int .i64 el54.A, .int .i64 el54.B, .int .i64 el54.At], .blk b101 79 [.slice Ab13_0_2 b13_0_2.length cb13_0_2, .slice Ab13_1_2 b13_1_2.length cb13_1_2]] [RE.rd k_Slot A1 cp2 a0.Arena.Slots, RE.rd (Kd.slice k_Handle) A5 cp6 a0.Kids, RE.rd k_Act A9 cp10 a1, RE.chunks k_Handle cs_row42_2 l_row42_2, RE.rd k_Slot Ab13_0_2 cb13_0_2 b13_0_2, RE.rd (Kd.slice k_Handle) Ab13_1_2 cb13_1_2 b13_1_2]) [17] [1, 2, 4, 6, 7, 9, 11, 14, 15, 16, 18] mixed0 (by kernel_rfl) (by kernel_rfl) (by kernel_rfl) (by rfl) (by exact H.drew) ?_
                    obtain ⟨w124, hW⟩ : ∃ W : World, W = { w123 with drawn := w123.drawn + 1 } := ⟨_, rfl⟩
                    rw [← hW]
                    have H : Sep ok w w124 [.blk b13 79 [.slice Ab13_0_2 b13_0_2.length cb13_0_2, .slice Ab13_1_2 b13_1_2.length cb13_1_2], .row (.slice A_row42_2 l_row42_2.length c_row42_2) 81 k_Handle.sz l_row42_2.length cs_row42_2, .blk b61 98 [.int .u8 el54.Kind, .int .i64 el54.A, .int .i64 el54.B, .int .i64 el54.At], .blk b101 79 [.slice Ab13_0_2 b13_0_2.length cb13_0_2, .slice Ab13_1_2 b13_1_2.length cb13_1_2]] [RE.rd k_Slot A1 cp2 a0.Arena.Slots, RE.rd (Kd.slice k_Handle) A5 cp6 a0.Kids, RE.rd k_Act A9 cp10 a1, RE.chunks k_Handle cs_row42_2 l_row42_2, RE.rd k_Slot Ab13_0_2 cb13_0_2 b13_0_2, RE.rd (Kd.slice k_Handle) Ab13_1_2 cb13_1_2 b13_1_2] := by rw [hW]; exact H.drew
                    clear hW
                    refine PR_take (by rfl) (by rfl) (by rfl) (by exact wn0 rfl) (fun wS (H : Sep ok w wS [.blk b13 79 [.slice Ab13_0_2 b13_0_2.length cb13_0_2, .slice Ab13_1_2 b13_1_2.length cb13_1_2], .row (.slice A_row42_2 l_row42_2.length c_row42_2) 81 k_Handle.sz l_row42_2.length cs_row42_2, .blk b61 98 [.int .u8 el54.Kind, .int .i64 el54.A, .int .i64 el54.B, .int .i64 el54.At], .blk b101 79 [.slice Ab13_0_2 b13_0_2.length cb13_0_2, .slice Ab13_1_2 b13_1_2.length cb13_1_2]] [RE.rd k_Slot A1 cp2 a0.Arena.Slots, RE.rd (Kd.slice k_Handle) A5 cp6 a0.Kids, RE.rd k_Act A9 cp10 a1, RE.chunks k_Handle cs_row42_2 l_row42_2, RE.rd k_Slot Ab13_0_2 cb13_0_2 b13_0_2, RE.rd (Kd.slice k_Handle) Ab13_1_2 cb13_1_2 b13_1_2]) => (x_loadA (j := 0) (vs := [.slice Ab13_0_2 b13_0_2.length cb13_0_2, .slice Ab13_1_2 b13_1_2.length cb13_1_2]) ag79 (by rfl) (H.cells (i := 0) (by rfl)) (by rfl) (by rfl))) ?_
                    refine PR_free (by rfl) (by rfl) (by rfl) (by exact wn0 rfl) (fun wS => (x_move (v := .slice A_row42_2 l_row42_2.length c_row42_2) (by rfl))) ?_
                    refine PR_free (by rfl) (by rfl) (by rfl) (by exact wn0 rfl) (fun wS => (x_fieldAddr fo98_1 (by rfl))) ?_
                    refine PR_take (by rfl) (by rfl) (by rfl) (by exact wn0 rfl) (fun wS (H : Sep ok w wS [.blk b13 79 [.slice Ab13_0_2 b13_0_2.length cb13_0_2, .slice Ab13_1_2 b13_1_2.length cb13_1_2], .row (.slice A_row42_2 l_row42_2.length c_row42_2) 81 k_Handle.sz l_row42_2.length cs_row42_2, .blk b61 98 [.int .u8 el54.Kind, .int .i64 el54.A, .int .i64 el54.B, .int .i64 el54.At], .blk b101 79 [.slice Ab13_0_2 b13_0_2.length cb13_0_2, .slice Ab13_1_2 b13_1_2.length cb13_1_2]] [RE.rd k_Slot A1 cp2 a0.Arena.Slots, RE.rd (Kd.slice k_Handle) A5 cp6 a0.Kids, RE.rd k_Act A9 cp10 a1, RE.chunks k_Handle cs_row42_2 l_row42_2, RE.rd k_Slot Ab13_0_2 cb13_0_2 b13_0_2, RE.rd (Kd.slice k_Handle) Ab13_1_2 cb13_1_2 b13_1_2]) => (x_load (j := 1) (v := .int .i64 el54.A) sc3 (by rfl) (H.cells (i := 2) (by rfl)) (by rfl))) ?_
                    obtain ⟨el125, h126, h127, he128, hm⟩ := idx_some hm
                    obtain ⟨g130, _, hA129, _, _⟩ := H.rowIdx (i := 1) (j := 3) (by rfl) (by rfl) he128
                    refine PR_free (by rfl) (by rfl) (by rfl) (by exact wn0 rfl) (fun wS => (x_indexAddr sl87 sz81 (by rfl) (by rfl) hA129 h126 h127)) ?_
                    refine PR_take (by rfl) (by rfl) (by rfl) (by exact wn0 rfl) (fun wS (H : Sep ok w wS [.blk b13 79 [.slice Ab13_0_2 b13_0_2.length cb13_0_2, .slice Ab13_1_2 b13_1_2.length cb13_1_2], .row (.slice A_row42_2 l_row42_2.length c_row42_2) 81 k_Handle.sz l_row42_2.length cs_row42_2, .blk b61 98 [.int .u8 el54.Kind, .int .i64 el54.A, .int .i64 el54.B, .int .i64 el54.At], .blk b101 79 [.slice Ab13_0_2 b13_0_2.length cb13_0_2, .slice Ab13_1_2 b13_1_2.length cb13_1_2]] [RE.rd k_Slot A1 cp2 a0.Arena.Slots, RE.rd (Kd.slice k_Handle) A5 cp6 a0.Kids, RE.rd k_Act A9 cp10 a1, RE.chunks k_Handle cs_row42_2 l_row42_2, RE.rd k_Slot Ab13_0_2 cb13_0_2 b13_0_2, RE.rd (Kd.slice k_Handle) Ab13_1_2 cb13_1_2 b13_1_2]) => (x_loadA (j := 0) (vs := [.int .i64 el125.Slot, .int .i64 el125.Gen]) ag81 (by rfl) (H.rowFlatAt (n := 2) (i := 1) (j := 3) (by rfl) (by rfl) hA129 he128) (by rfl) (by rfl))) ?_
                    refine PR_free (by rfl) (by rfl) (by rfl) (by exact wn0 rfl) (fun wS => (x_move (v := .slice A_row42_2 l_row42_2.length c_row42_2) (by rfl))) ?_
                    refine PR_free (by rfl) (by rfl) (by rfl) (by exact wn0 rfl) (fun wS => (x_fieldAddr fo98_2 (by rfl))) ?_
                    refine PR_take (by rfl) (by rfl) (by rfl) (by exact wn0 rfl) (fun wS (H : Sep ok w wS [.blk b13 79 [.slice Ab13_0_2 b13_0_2.length cb13_0_2, .slice Ab13_1_2 b13_1_2.length cb13_1_2], .row (.slice A_row42_2 l_row42_2.length c_row42_2) 81 k_Handle.sz l_row42_2.length cs_row42_2, .blk b61 98 [.int .u8 el54.Kind, .int .i64 el54.A, .int .i64 el54.B, .int .i64 el54.At], .blk b101 79 [.slice Ab13_0_2 b13_0_2.length cb13_0_2, .slice Ab13_1_2 b13_1_2.length cb13_1_2]] [RE.rd k_Slot A1 cp2 a0.Arena.Slots, RE.rd (Kd.slice k_Handle) A5 cp6 a0.Kids, RE.rd k_Act A9 cp10 a1, RE.chunks k_Handle cs_row42_2 l_row42_2, RE.rd k_Slot Ab13_0_2 cb13_0_2 b13_0_2, RE.rd (Kd.slice k_Handle) Ab13_1_2 cb13_1_2 b13_1_2]) => (x_load (j := 2) (v := .int .i64 el54.B) sc3 (by rfl) (H.cells (i := 2) (by rfl)) (by rfl))) ?_
                    obtain ⟨el132, h133, h134, he135, hm⟩ := idx_some hm
                    obtain ⟨g137, _, hA136, _, _⟩ := H.rowIdx (i := 1) (j := 3) (by rfl) (by rfl) he135
                    refine PR_free (by rfl) (by rfl) (by rfl) (by exact wn0 rfl) (fun wS => (x_indexAddr sl87 sz81 (by rfl) (by rfl) hA136 h133 h134)) ?_
                    refine PR_take (by rfl) (by rfl) (by rfl) (by exact wn0 rfl) (fun wS (H : Sep ok w wS [.blk b13 79 [.slice Ab13_0_2 b13_0_2.length cb13_0_2, .slice Ab13_1_2 b13_1_2.length cb13_1_2], .row (.slice A_row42_2 l_row42_2.length c_row42_2) 81 k_Handle.sz l_row42_2.length cs_row42_2, .blk b61 98 [.int .u8 el54.Kind, .int .i64 el54.A, .int .i64 el54.B, .int .i64 el54.At], .blk b101 79 [.slice Ab13_0_2 b13_0_2.length cb13_0_2, .slice Ab13_1_2 b13_1_2.length cb13_1_2]] [RE.rd k_Slot A1 cp2 a0.Arena.Slots, RE.rd (Kd.slice k_Handle) A5 cp6 a0.Kids, RE.rd k_Act A9 cp10 a1, RE.chunks k_Handle cs_row42_2 l_row42_2, RE.rd k_Slot Ab13_0_2 cb13_0_2 b13_0_2, RE.rd (Kd.slice k_Handle) Ab13_1_2 cb13_1_2 b13_1_2]) => (x_loadA (j := 0) (vs := [.int .i64 el132.Slot, .int .i64 el132.Gen]) ag81 (by rfl) (H.rowFlatAt (n := 2) (i := 1) (j := 3) (by rfl) (by rfl) hA136 he135) (by rfl) (by rfl))) ?_
                    refine PR_free (by rfl) (by rfl) (by rfl) (by exact wn0 rfl) (fun wS => (x_fieldAddr fo98_3 (by rfl))) ?_
                    refine PR_take (by rfl) (by rfl) (by rfl) (by exact wn0 rfl) (fun wS (H : Sep ok w wS [.blk b13 79 [.slice Ab13_0_2 b13_0_2.length cb13_0_2, .slice Ab13_1_2 b13_1_2.length cb13_1_2], .row (.slice A_row42_2 l_row42_2.length c_row42_2) 81 k_Handle.sz l_row42_2.length cs_row42_2, .blk b61 98 [.int .u8 el54.Kind, .int .i64 el54.A, .int .i64 el54.B, .int .i64 el54.At], .blk b101 79 [.slice Ab13_0_2 b13_0_2.length cb13_0_2, .slice Ab13_1_2 b13_1_2.length cb13_1_2]] [RE.rd k_Slot A1 cp2 a0.Arena.Slots, RE.rd (Kd.slice k_Handle) A5 cp6 a0.Kids, RE.rd k_Act A9 cp10 a1, RE.chunks k_Handle cs_row42_2 l_row42_2, RE.rd k_Slot Ab13_0_2 cb13_0_2 b13_0_2, RE.rd (Kd.slice k_Handle) Ab13_1_2 cb13_1_2 b13_1_2]) => (x_load (j := 3) (v := .int .i64 el54.At) sc3 (by rfl) (H.cells (i := 2) (by rfl)) (by rfl))) ?_
                    obtain ⟨v140, hv139, hm⟩ := bind_some hm
                    refine PR_run (by rfl) (O_call (by exact wn0 rfl) (by rfl) (by rfl) (x_callL (by rfl) (args := [.agg #[.slice Ab13_0_2 b13_0_2.length cb13_0_2, .slice Ab13_1_2 b13_1_2.length cb13_1_2], .agg #[.int .i64 el125.Slot, .int .i64 el125.Gen], .agg #[.int .i64 el132.Slot, .int .i64 el132.Gen], .int .i64 el54.At]) (by rfl) (cf38 _ _)) (c38 (okS ok w [.blk b13 79 [.slice Ab13_0_2 b13_0_2.length cb13_0_2, .slice Ab13_1_2 b13_1_2.length cb13_1_2], .row (.slice A_row42_2 l_row42_2.length c_row42_2) 81 k_Handle.sz l_row42_2.length cs_row42_2, .blk b61 98 [.int .u8 el54.Kind, .int .i64 el54.A, .int .i64 el54.B, .int .i64 el54.At], .blk b101 79 [.slice Ab13_0_2 b13_0_2.length cb13_0_2, .slice Ab13_1_2 b13_1_2.length cb13_1_2]]) K w124 (⟨(⟨b13_0_2⟩ : S_Arena), b13_1_2⟩ : S_Graph) Ab13_0_2 cb13_0_2 Ab13_1_2 cb13_1_2 el125 el132 el54.At (H.rd (i := 4) (by rfl)) (H.rd (i := 5) (by rfl)) v140 hv139) ?_)
                    rintro e w141 ⟨A142, cp143, A145, cp146, rfl, H2⟩
                    have H : Sep ok w w141 [.blk b13 79 [.slice Ab13_0_2 b13_0_2.length cb13_0_2, .slice Ab13_1_2 b13_1_2.length cb13_1_2], .row (.slice A_row42_2 l_row42_2.length c_row42_2) 81 k_Handle.sz l_row42_2.length cs_row42_2, .blk b61 98 [.int .u8 el54.Kind, .int .i64 el54.A, .int .i64 el54.B, .int .i64 el54.At], .blk b101 79 [.slice Ab13_0_2 b13_0_2.length cb13_0_2, .slice Ab13_1_2 b13_1_2.length cb13_1_2]] [RE.rd k_Slot A1 cp2 a0.Arena.Slots, RE.rd (Kd.slice k_Handle) A5 cp6 a0.Kids, RE.rd k_Act A9 cp10 a1, RE.chunks k_Handle cs_row42_2 l_row42_2, RE.rd k_Slot Ab13_0_2 cb13_0_2 b13_0_2, RE.rd (Kd.slice k_Handle) Ab13_1_2 cb13_1_2 b13_1_2, RE.rd k_Slot A142 cp143 v140.1.Arena.Slots, RE.rd (Kd.slice k_Handle) A145 cp146 v140.1.Kids] := H.call H2
                    clear H2
                    refine ⟨_, rfl, (Sep.takeR H 6), ?_⟩
                    show PR _ _ _ _ _ _ _ _
                    refine PR_free (by rfl) (by rfl) (by rfl) (by exact wn0 rfl) (fun wS => (x_move (v := tup [.agg #[.slice A142 v140.1.Arena.Slots.length cp143, .slice A145 v140.1.Kids.length cp146], .int .i64 v140.2]) (by rfl))) ?_
                    refine PR_free (by rfl) (by rfl) (by rfl) (by exact wn0 rfl) (fun wS => (x_extract (v := .agg #[.slice A142 v140.1.Arena.Slots.length cp143, .slice A145 v140.1.Kids.length cp146]) (by rfl) (by rfl))) ?_
                    refine PR_free (by rfl) (by rfl) (by rfl) (by exact wn0 rfl) (fun wS => (x_extract (v := .int .i64 v140.2) (by rfl) (by rfl))) ?_
                    refine PR_tail (by rfl) (O_store (i := 3) (off := 0) (by exact wn0 rfl) (by rfl) (by rfl) H (by rfl) (vs := [.slice A142 v140.1.Arena.Slots.length cp143, .slice A145 v140.1.Kids.length cp146]) (by rfl) sz79 (by rfl) (by rfl) (by rfl) (fun w148 (H : Sep ok w w148 [.blk b13 79 [.slice Ab13_0_2 b13_0_2.length cb13_0_2, .slice Ab13_1_2 b13_1_2.length cb13_1_2], .row (.slice A_row42_2 l_row42_2.length c_row42_2) 81 k_Handle.sz l_row42_2.length cs_row42_2, .blk b61 98 [.int .u8 el54.Kind, .int .i64 el54.A, .int .i64 el54.B, .int .i64 el54.At], .blk b101 79 [.slice A142 v140.1.Arena.Slots.length cp143, .slice A145 v140.1.Kids.length cp146]] [RE.rd k_Slot A1 cp2 a0.Arena.Slots, RE.rd (Kd.slice k_Handle) A5 cp6 a0.Kids, RE.rd k_Act A9 cp10 a1, RE.chunks k_Handle cs_row42_2 l_row42_2, RE.rd k_Slot Ab13_0_2 cb13_0_2 b13_0_2, RE.rd (Kd.slice k_Handle) Ab13_1_2 cb13_1_2 b13_1_2, RE.rd k_Slot A142 cp143 v140.1.Arena.Slots, RE.rd (Kd.slice k_Handle) A145 cp146 v140.1.Kids]) => ?_))
                    refine PR_free (by rfl) (by rfl) (by rfl) (by exact wn0 rfl) (fun wS => (x_assign (v := .int .i64 v140.2) (by rfl))) ?_
                    refine PR_nil ?_
                    refine W_seq ?_
                    refine W_draw [.take 0, .free 1, .free 2, .take 3, .free 4, .take 5, .free 6, .free 7, .take 8, .free 9, .take 10, .run 11, .free 12, .free 13, .free 14, .free 15, .free 16] (fun wS => Sep ok w wS [.blk b13 79 [.slice Ab13_0_2 b13_0_2.length cb13_0_2, .slice Ab13_1_2 b13_1_2.length cb13_1_2], .row (.slice A_row42_2 l_row42_2.length c_row42_2) 81 k_Handle.sz l_row42_2.length cs_row42_2, .blk b61 98 [.int .u8 el54.Kind, .int .i64 el54.A, .int .i64 el54.B, .int .i64 el54.At], .blk b101 79 [.slice A142 v140.1.Arena.Slots.length cp143, .slice A145 v140.1.Kids.length cp146]] [RE.rd k_Slot A1 cp2 a0.Arena.Slots, RE.rd (Kd.slice k_Handle) A5 cp6 a0.Kids, RE.rd k_Act A9 cp10 a1, RE.chunks k_Handle cs_row42_2 l_row42_2, RE.rd k_Slot Ab13_0_2 cb13_0_2 b13_0_2, RE.rd (Kd.slice k_Handle) Ab13_1_2 cb13_1_2 b13_1_2, RE.rd k_Slot A142 cp143 v140.1.Arena.Slots, RE.rd (Kd.slice k_Handle) A145 cp146 v140.1.Kids]) [] [1, 2, 4, 6, 7, 9, 12, 13, 14, 15, 16] mixed0 (by kernel_rfl) (by kernel_rfl) (by kernel_rfl) (by rfl) (by exact H.drew) ?_
                    obtain ⟨w149, hW⟩ : ∃ W : World, W = { w148 with drawn := w148.drawn + 1 } := ⟨_, rfl⟩
                    rw [← hW]
                    have H : Sep ok w w149 [.blk b13 79 [.slice Ab13_0_2 b13_0_2.length cb13_0_2, .slice Ab13_1_2 b13_1_2.length cb13_1_2], .row (.slice A_row42_2 l_row42_2.length c_row42_2) 81 k_Handle.sz l_row42_2.length cs_row42_2, .blk b61 98 [.int .u8 el54.Kind, .int .i64 el54.A, .int .i64 el54.B, .int .i64 el54.At], .blk b101 79 [.slice A142 v140.1.Arena.Slots.length cp143, .slice A145 v140.1.Kids.length cp146]] [RE.rd k_Slot A1 cp2 a0.Arena.Slots, RE.rd (Kd.slice k_Handle) A5 cp6 a0.Kids, RE.rd k_Act A9 cp10 a1, RE.chunks k_Handle cs_row42_2 l_row42_2, RE.rd k_Slot Ab13_0_2 cb13_0_2 b13_0_2, RE.rd (Kd.slice k_Handle) Ab13_1_2 cb13_1_2 b13_1_2, RE.rd k_Slot A142 cp143 v140.1.Arena.Slots, RE.rd (Kd.slice k_Handle) A145 cp146 v140.1.Kids] := by rw [hW]; exact H.drew
                    clear hW
                    refine PR_take (by rfl) (by rfl) (by rfl) (by exact wn0 rfl) (fun wS (H : Sep ok w wS [.blk b13 79 [.slice Ab13_0_2 b13_0_2.length cb13_0_2, .slice Ab13_1_2 b13_1_2.length cb13_1_2], .row (.slice A_row42_2 l_row42_2.length c_row42_2) 81 k_Handle.sz l_row42_2.length cs_row42_2, .blk b61 98 [.int .u8 el54.Kind, .int .i64 el54.A, .int .i64 el54.B, .int .i64 el54.At], .blk b101 79 [.slice A142 v140.1.Arena.Slots.length cp143, .slice A145 v140.1.Kids.length cp146]] [RE.rd k_Slot A1 cp2 a0.Arena.Slots, RE.rd (Kd.slice k_Handle) A5 cp6 a0.Kids, RE.rd k_Act A9 cp10 a1, RE.chunks k_Handle cs_row42_2 l_row42_2, RE.rd k_Slot Ab13_0_2 cb13_0_2 b13_0_2, RE.rd (Kd.slice k_Handle) Ab13_1_2 cb13_1_2 b13_1_2, RE.rd k_Slot A142 cp143 v140.1.Arena.Slots, RE.rd (Kd.slice k_Handle) A145 cp146 v140.1.Kids]) => (x_loadA (j := 0) (vs := [.slice Ab13_0_2 b13_0_2.length cb13_0_2, .slice Ab13_1_2 b13_1_2.length cb13_1_2]) ag79 (by rfl) (H.cells (i := 0) (by rfl)) (by rfl) (by rfl))) ?_
                    refine PR_free (by rfl) (by rfl) (by rfl) (by exact wn0 rfl) (fun wS => (x_move (v := .slice A_row42_2 l_row42_2.length c_row42_2) (by rfl))) ?_
                    refine PR_free (by rfl) (by rfl) (by rfl) (by exact wn0 rfl) (fun wS => (x_fieldAddr fo98_2 (by rfl))) ?_
                    refine PR_take (by rfl) (by rfl) (by rfl) (by exact wn0 rfl) (fun wS (H : Sep ok w wS [.blk b13 79 [.slice Ab13_0_2 b13_0_2.length cb13_0_2, .slice Ab13_1_2 b13_1_2.length cb13_1_2], .row (.slice A_row42_2 l_row42_2.length c_row42_2) 81 k_Handle.sz l_row42_2.length cs_row42_2, .blk b61 98 [.int .u8 el54.Kind, .int .i64 el54.A, .int .i64 el54.B, .int .i64 el54.At], .blk b101 79 [.slice A142 v140.1.Arena.Slots.length cp143, .slice A145 v140.1.Kids.length cp146]] [RE.rd k_Slot A1 cp2 a0.Arena.Slots, RE.rd (Kd.slice k_Handle) A5 cp6 a0.Kids, RE.rd k_Act A9 cp10 a1, RE.chunks k_Handle cs_row42_2 l_row42_2, RE.rd k_Slot Ab13_0_2 cb13_0_2 b13_0_2, RE.rd (Kd.slice k_Handle) Ab13_1_2 cb13_1_2 b13_1_2, RE.rd k_Slot A142 cp143 v140.1.Arena.Slots, RE.rd (Kd.slice k_Handle) A145 cp146 v140.1.Kids]) => (x_load (j := 2) (v := .int .i64 el54.B) sc3 (by rfl) (H.cells (i := 2) (by rfl)) (by rfl))) ?_
                    obtain ⟨el150, h151, h152, he153, hm⟩ := idx_some hm
                    obtain ⟨g155, _, hA154, _, _⟩ := H.rowIdx (i := 1) (j := 3) (by rfl) (by rfl) he153
                    refine PR_free (by rfl) (by rfl) (by rfl) (by exact wn0 rfl) (fun wS => (x_indexAddr sl87 sz81 (by rfl) (by rfl) hA154 h151 h152)) ?_
                    refine PR_take (by rfl) (by rfl) (by rfl) (by exact wn0 rfl) (fun wS (H : Sep ok w wS [.blk b13 79 [.slice Ab13_0_2 b13_0_2.length cb13_0_2, .slice Ab13_1_2 b13_1_2.length cb13_1_2], .row (.slice A_row42_2 l_row42_2.length c_row42_2) 81 k_Handle.sz l_row42_2.length cs_row42_2, .blk b61 98 [.int .u8 el54.Kind, .int .i64 el54.A, .int .i64 el54.B, .int .i64 el54.At], .blk b101 79 [.slice A142 v140.1.Arena.Slots.length cp143, .slice A145 v140.1.Kids.length cp146]] [RE.rd k_Slot A1 cp2 a0.Arena.Slots, RE.rd (Kd.slice k_Handle) A5 cp6 a0.Kids, RE.rd k_Act A9 cp10 a1, RE.chunks k_Handle cs_row42_2 l_row42_2, RE.rd k_Slot Ab13_0_2 cb13_0_2 b13_0_2, RE.rd (Kd.slice k_Handle) Ab13_1_2 cb13_1_2 b13_1_2, RE.rd k_Slot A142 cp143 v140.1.Arena.Slots, RE.rd (Kd.slice k_Handle) A145 cp146 v140.1.Kids]) => (x_loadA (j := 0) (vs := [.int .i64 el150.Slot, .int .i64 el150.Gen]) ag81 (by rfl) (H.rowFlatAt (n := 2) (i := 1) (j := 3) (by rfl) (by rfl) hA154 he153) (by rfl) (by rfl))) ?_
                    refine PR_free (by rfl) (by rfl) (by rfl) (by exact wn0 rfl) (fun wS => (x_move (v := .slice A_row42_2 l_row42_2.length c_row42_2) (by rfl))) ?_
                    refine PR_free (by rfl) (by rfl) (by rfl) (by exact wn0 rfl) (fun wS => (x_fieldAddr fo98_1 (by rfl))) ?_
                    refine PR_take (by rfl) (by rfl) (by rfl) (by exact wn0 rfl) (fun wS (H : Sep ok w wS [.blk b13 79 [.slice Ab13_0_2 b13_0_2.length cb13_0_2, .slice Ab13_1_2 b13_1_2.length cb13_1_2], .row (.slice A_row42_2 l_row42_2.length c_row42_2) 81 k_Handle.sz l_row42_2.length cs_row42_2, .blk b61 98 [.int .u8 el54.Kind, .int .i64 el54.A, .int .i64 el54.B, .int .i64 el54.At], .blk b101 79 [.slice A142 v140.1.Arena.Slots.length cp143, .slice A145 v140.1.Kids.length cp146]] [RE.rd k_Slot A1 cp2 a0.Arena.Slots, RE.rd (Kd.slice k_Handle) A5 cp6 a0.Kids, RE.rd k_Act A9 cp10 a1, RE.chunks k_Handle cs_row42_2 l_row42_2, RE.rd k_Slot Ab13_0_2 cb13_0_2 b13_0_2, RE.rd (Kd.slice k_Handle) Ab13_1_2 cb13_1_2 b13_1_2, RE.rd k_Slot A142 cp143 v140.1.Arena.Slots, RE.rd (Kd.slice k_Handle) A145 cp146 v140.1.Kids]) => (x_load (j := 1) (v := .int .i64 el54.A) sc3 (by rfl) (H.cells (i := 2) (by rfl)) (by rfl))) ?_
                    obtain ⟨el157, h158, h159, he160, hm⟩ := idx_some hm
                    obtain ⟨g162, _, hA161, _, _⟩ := H.rowIdx (i := 1) (j := 3) (by rfl) (by rfl) he160
                    refine PR_free (by rfl) (by rfl) (by rfl) (by exact wn0 rfl) (fun wS => (x_indexAddr sl87 sz81 (by rfl) (by rfl) hA161 h158 h159)) ?_
                    refine PR_take (by rfl) (by rfl) (by rfl) (by exact wn0 rfl) (fun wS (H : Sep ok w wS [.blk b13 79 [.slice Ab13_0_2 b13_0_2.length cb13_0_2, .slice Ab13_1_2 b13_1_2.length cb13_1_2], .row (.slice A_row42_2 l_row42_2.length c_row42_2) 81 k_Handle.sz l_row42_2.length cs_row42_2, .blk b61 98 [.int .u8 el54.Kind, .int .i64 el54.A, .int .i64 el54.B, .int .i64 el54.At], .blk b101 79 [.slice A142 v140.1.Arena.Slots.length cp143, .slice A145 v140.1.Kids.length cp146]] [RE.rd k_Slot A1 cp2 a0.Arena.Slots, RE.rd (Kd.slice k_Handle) A5 cp6 a0.Kids, RE.rd k_Act A9 cp10 a1, RE.chunks k_Handle cs_row42_2 l_row42_2, RE.rd k_Slot Ab13_0_2 cb13_0_2 b13_0_2, RE.rd (Kd.slice k_Handle) Ab13_1_2 cb13_1_2 b13_1_2, RE.rd k_Slot A142 cp143 v140.1.Arena.Slots, RE.rd (Kd.slice k_Handle) A145 cp146 v140.1.Kids]) => (x_loadA (j := 0) (vs := [.int .i64 el157.Slot, .int .i64 el157.Gen]) ag81 (by rfl) (H.rowFlatAt (n := 2) (i := 1) (j := 3) (by rfl) (by rfl) hA161 he160) (by rfl) (by rfl))) ?_
                    obtain ⟨v165, hv164, hm⟩ := bind_some hm
                    refine PR_run (by rfl) (O_call (by exact wn0 rfl) (by rfl) (by rfl) (x_callL (by rfl) (args := [.agg #[.slice Ab13_0_2 b13_0_2.length cb13_0_2, .slice Ab13_1_2 b13_1_2.length cb13_1_2], .agg #[.int .i64 el150.Slot, .int .i64 el150.Gen], .agg #[.int .i64 el157.Slot, .int .i64 el157.Gen]]) (by rfl) (cf46 _ _)) (c46 okT K w149 (⟨(⟨b13_0_2⟩ : S_Arena), b13_1_2⟩ : S_Graph) Ab13_0_2 cb13_0_2 Ab13_1_2 cb13_1_2 el150 el157 (H.rd (i := 4) (by rfl)).any (H.rd (i := 5) (by rfl)).any v165 hv164) ?_)
                    rintro e w166 ⟨rfl, H2⟩
                    have H : Sep ok w w166 [.blk b13 79 [.slice Ab13_0_2 b13_0_2.length cb13_0_2, .slice Ab13_1_2 b13_1_2.length cb13_1_2], .row (.slice A_row42_2 l_row42_2.length c_row42_2) 81 k_Handle.sz l_row42_2.length cs_row42_2, .blk b61 98 [.int .u8 el54.Kind, .int .i64 el54.A, .int .i64 el54.B, .int .i64 el54.At], .blk b101 79 [.slice A142 v140.1.Arena.Slots.length cp143, .slice A145 v140.1.Kids.length cp146]] [RE.rd k_Slot A1 cp2 a0.Arena.Slots, RE.rd (Kd.slice k_Handle) A5 cp6 a0.Kids, RE.rd k_Act A9 cp10 a1, RE.chunks k_Handle cs_row42_2 l_row42_2, RE.rd k_Slot Ab13_0_2 cb13_0_2 b13_0_2, RE.rd (Kd.slice k_Handle) Ab13_1_2 cb13_1_2 b13_1_2, RE.rd k_Slot A142 cp143 v140.1.Arena.Slots, RE.rd (Kd.slice k_Handle) A145 cp146 v140.1.Kids] := H.below H2.base
                    clear H2
                    refine ⟨_, rfl, H, ?_⟩
                    show PR _ _ _ _ _ _ _ _
                    refine PR_free (by rfl) (by rfl) (by rfl) (by exact wn0 rfl) (fun wS => (x_move (v := tup [.bool v165.1, .int .i64 v165.2]) (by rfl))) ?_
                    refine PR_free (by rfl) (by rfl) (by rfl) (by exact wn0 rfl) (fun wS => (x_extract (v := .bool v165.1) (by rfl) (by rfl))) ?_
                    refine PR_free (by rfl) (by rfl) (by rfl) (by exact wn0 rfl) (fun wS => (x_extract (v := .int .i64 v165.2) (by rfl) (by rfl))) ?_
                    refine PR_free (by rfl) (by rfl) (by rfl) (by exact wn0 rfl) (fun wS => (x_assign (v := .bool v165.1) (by rfl))) ?_
                    refine PR_free (by rfl) (by rfl) (by rfl) (by exact wn0 rfl) (fun wS => (x_assign (v := .int .i64 v165.2) (by rfl))) ?_
                    refine PR_nil ?_
                    refine W_seq ?_
                    refine W_region ?_
                    refine RL_pure (by exact wn0 rfl) (by rfl) (by rfl) (x_move (v := .int .i64 v140.2) (by rfl)) ?_
                    refine RL_pure (by exact wn0 rfl) (by rfl) (by rfl) (x_eql (by rfl) (by rfl)) ?_
                    refine RL_pure (by exact wn0 rfl) (by rfl) (by rfl) (x_move (v := .bool (v140.2 == 60)) (by rfl)) ?_
                    obtain ⟨b167, hmS, hm⟩ := bind_some hm
                    refine RL_cut 7 (fun r' w' => Agr [(176, .bool b167), (1, .slice A9 a1.length cp10), (2, .pointer (some ⟨b13, 0, none⟩)), (6, .slice A_row42_2 l_row42_2.length c_row42_2), (8, .int .i64 y8_2), (13, .pointer (some ⟨b101, 0, none⟩)), (14, .int .i64 v140.2), (15, .bool v165.1), (16, .int .i64 v165.2)] r' ∧ Sep ok w w' [.blk b13 79 [.slice Ab13_0_2 b13_0_2.length cb13_0_2, .slice Ab13_1_2 b13_1_2.length cb13_1_2], .row (.slice A_row42_2 l_row42_2.length c_row42_2) 81 k_Handle.sz l_row42_2.length cs_row42_2, .blk b61 98 [.int .u8 el54.Kind, .int .i64 el54.A, .int .i64 el54.B, .int .i64 el54.At], .blk b101 79 [.slice A142 v140.1.Arena.Slots.length cp143, .slice A145 v140.1.Kids.length cp146]] [RE.rd k_Slot A1 cp2 a0.Arena.Slots, RE.rd (Kd.slice k_Handle) A5 cp6 a0.Kids, RE.rd k_Act A9 cp10 a1, RE.chunks k_Handle cs_row42_2 l_row42_2, RE.rd k_Slot Ab13_0_2 cb13_0_2 b13_0_2, RE.rd (Kd.slice k_Handle) Ab13_1_2 cb13_1_2 b13_1_2, RE.rd k_Slot A142 cp143 v140.1.Arena.Slots, RE.rd (Kd.slice k_Handle) A145 cp146 v140.1.Kids]) ?_ ?_
                    ·cases hbS : (v140.2 == 60)
                     ·have hm := cond_f hbS hmS
                      refine RL_cons (OpR_off (by exact wn2 rfl rfl rfl rfl) (by rfl) (by rfl) ?_)
                      refine RL_cons (OpR_off (by exact wn2 rfl rfl rfl rfl) (by rfl) (by rfl) ?_)
                      refine RL_cons (OpR_off (by exact wn2 rfl rfl rfl rfl) (by rfl) (by rfl) ?_)
                      refine RL_cons (OpR_off (by exact wn3 rfl rfl rfl) (by rfl) (by rfl) ?_)
                      refine RL_cons (OpR_off (by exact wn3 rfl rfl rfl) (by rfl) (by rfl) ?_)
                      refine RL_cons (OpR_off (by exact wn2 rfl rfl rfl rfl) (by rfl) (by rfl) ?_)
                      refine RL_pure (by exact wn0 rfl) (by rfl) (by rfl) (x_pick_f (v := .bool false) (by rfl) (by rfl)) ?_
                      refine RL_nil ?_
                      exact ⟨⟨congrArg Value.bool (Option.some.inj hm), rfl, rfl, rfl, rfl, rfl, rfl, rfl, rfl, trivial⟩, H⟩
                     ·have hm := cond_t hbS hmS
                      refine RL_pure (by exact wn1 rfl rfl rfl rfl) (by rfl) (by rfl) (x_move (v := .int .i64 v165.2) (by rfl)) ?_
                      refine RL_pure (by exact wn1 rfl rfl rfl rfl) (by rfl) (by rfl) (x_neq (by rfl) (by rfl)) ?_
                      refine RL_pure (by exact wn1 rfl rfl rfl rfl) (by rfl) (by rfl) (x_move (v := .bool (v165.2 != 0)) (by rfl)) ?_
                      obtain ⟨b168, hmS, hm⟩ := bind_some hm
                      refine RL_cut 3 (fun r' w' => Agr [(175, .bool b168), (1, .slice A9 a1.length cp10), (2, .pointer (some ⟨b13, 0, none⟩)), (6, .slice A_row42_2 l_row42_2.length c_row42_2), (8, .int .i64 y8_2), (13, .pointer (some ⟨b101, 0, none⟩)), (14, .int .i64 v140.2), (15, .bool v165.1), (16, .int .i64 v165.2), (169, .bool true)] r' ∧ Sep ok w w' [.blk b13 79 [.slice Ab13_0_2 b13_0_2.length cb13_0_2, .slice Ab13_1_2 b13_1_2.length cb13_1_2], .row (.slice A_row42_2 l_row42_2.length c_row42_2) 81 k_Handle.sz l_row42_2.length cs_row42_2, .blk b61 98 [.int .u8 el54.Kind, .int .i64 el54.A, .int .i64 el54.B, .int .i64 el54.At], .blk b101 79 [.slice A142 v140.1.Arena.Slots.length cp143, .slice A145 v140.1.Kids.length cp146]] [RE.rd k_Slot A1 cp2 a0.Arena.Slots, RE.rd (Kd.slice k_Handle) A5 cp6 a0.Kids, RE.rd k_Act A9 cp10 a1, RE.chunks k_Handle cs_row42_2 l_row42_2, RE.rd k_Slot Ab13_0_2 cb13_0_2 b13_0_2, RE.rd (Kd.slice k_Handle) Ab13_1_2 cb13_1_2 b13_1_2, RE.rd k_Slot A142 cp143 v140.1.Arena.Slots, RE.rd (Kd.slice k_Handle) A145 cp146 v140.1.Kids]) ?_ ?_
                      ·cases hbS : (v165.2 != 0)
                       ·have hm := cond_f hbS hmS
                        refine RL_pure (by exact wn1 rfl rfl rfl rfl) (by rfl) (by rfl) (x_move (v := .bool v165.1) (by rfl)) ?_
                        refine RL_pure (by exact wn1 rfl rfl rfl rfl) (by rfl) (by rfl) (x_not (by rfl)) ?_
                        refine RL_pure (by exact wn1 rfl rfl rfl rfl) (by rfl) (by rfl) (x_pick_f (v := .bool (!v165.1)) (by rfl) (by rfl)) ?_
                        refine RL_nil ?_
                        exact ⟨⟨congrArg Value.bool (Option.some.inj hm), rfl, rfl, rfl, rfl, rfl, rfl, rfl, rfl, rfl, trivial⟩, H⟩
                       ·have hm := cond_t hbS hmS
                        refine RL_cons (OpR_off (by exact wn2 rfl rfl rfl rfl) (by rfl) (by rfl) ?_)
                        refine RL_cons (OpR_off (by exact wn2 rfl rfl rfl rfl) (by rfl) (by rfl) ?_)
                        refine RL_pure (by exact wn1 rfl rfl rfl rfl) (by rfl) (by rfl) (x_pick_t (v := .bool true) (by rfl) (by rfl)) ?_
                        refine RL_nil ?_
                        exact ⟨⟨congrArg Value.bool (Option.some.inj hm), rfl, rfl, rfl, rfl, rfl, rfl, rfl, rfl, rfl, trivial⟩, H⟩
                      ·rintro r' w' ⟨hA, H⟩
                       obtain ⟨r169, rfl⟩ := regen _ hA; clear hA
                       obtain ⟨w170, rfl⟩ : ∃ W : World, W = w' := ⟨_, rfl⟩
                       show RL _ _ _ _ _ _ _
                       refine RL_pure (by exact wn0 rfl) (by rfl) (by rfl) (x_pick_t (v := .bool b168) (by rfl) (by rfl)) ?_
                       refine RL_nil ?_
                       exact ⟨⟨congrArg Value.bool (Option.some.inj hm), rfl, rfl, rfl, rfl, rfl, rfl, rfl, rfl, trivial⟩, H⟩
                    ·rintro r' w' ⟨hA, H⟩
                     obtain ⟨r171, rfl⟩ := regen _ hA; clear hA
                     obtain ⟨w172, rfl⟩ : ∃ W : World, W = w' := ⟨_, rfl⟩
                     show RL _ _ _ _ _ _ _
                     refine RL_pure (by exact wn0 rfl) (by rfl) (by rfl) (x_move (v := .bool b167) (by rfl)) ?_
                     obtain ⟨b173, hmS, hm⟩ := bind_some hm
                     refine RL_cut 10 (fun r' w' => Agr [(187, .bool b173), (1, .slice A9 a1.length cp10), (2, .pointer (some ⟨b13, 0, none⟩)), (6, .slice A_row42_2 l_row42_2.length c_row42_2), (8, .int .i64 y8_2), (13, .pointer (some ⟨b101, 0, none⟩)), (14, .int .i64 v140.2)] r' ∧ Sep ok w w' [.blk b13 79 [.slice Ab13_0_2 b13_0_2.length cb13_0_2, .slice Ab13_1_2 b13_1_2.length cb13_1_2], .row (.slice A_row42_2 l_row42_2.length c_row42_2) 81 k_Handle.sz l_row42_2.length cs_row42_2, .blk b61 98 [.int .u8 el54.Kind, .int .i64 el54.A, .int .i64 el54.B, .int .i64 el54.At], .blk b101 79 [.slice A142 v140.1.Arena.Slots.length cp143, .slice A145 v140.1.Kids.length cp146]] [RE.rd k_Slot A1 cp2 a0.Arena.Slots, RE.rd (Kd.slice k_Handle) A5 cp6 a0.Kids, RE.rd k_Act A9 cp10 a1, RE.chunks k_Handle cs_row42_2 l_row42_2, RE.rd k_Slot Ab13_0_2 cb13_0_2 b13_0_2, RE.rd (Kd.slice k_Handle) Ab13_1_2 cb13_1_2 b13_1_2, RE.rd k_Slot A142 cp143 v140.1.Arena.Slots, RE.rd (Kd.slice k_Handle) A145 cp146 v140.1.Kids]) ?_ ?_
                     ·cases hbS : b167
                      ·have hm := cond_f hbS hmS
                       refine RL_pure (by exact wn1 rfl rfl rfl rfl) (by rfl) (by rfl) (x_move (v := .int .i64 v140.2) (by rfl)) ?_
                       refine RL_pure (by exact wn1 rfl rfl rfl rfl) (by rfl) (by rfl) (x_eql (by rfl) (by rfl)) ?_
                       refine RL_pure (by exact wn1 rfl rfl rfl rfl) (by rfl) (by rfl) (x_move (v := .bool (v140.2 == 0)) (by rfl)) ?_
                       obtain ⟨b174, hmS, hm⟩ := bind_some hm
                       refine RL_cut 6 (fun r' w' => Agr [(186, .bool b174), (1, .slice A9 a1.length cp10), (2, .pointer (some ⟨b13, 0, none⟩)), (6, .slice A_row42_2 l_row42_2.length c_row42_2), (8, .int .i64 y8_2), (13, .pointer (some ⟨b101, 0, none⟩)), (14, .int .i64 v140.2), (177, .bool false)] r' ∧ Sep ok w w' [.blk b13 79 [.slice Ab13_0_2 b13_0_2.length cb13_0_2, .slice Ab13_1_2 b13_1_2.length cb13_1_2], .row (.slice A_row42_2 l_row42_2.length c_row42_2) 81 k_Handle.sz l_row42_2.length cs_row42_2, .blk b61 98 [.int .u8 el54.Kind, .int .i64 el54.A, .int .i64 el54.B, .int .i64 el54.At], .blk b101 79 [.slice A142 v140.1.Arena.Slots.length cp143, .slice A145 v140.1.Kids.length cp146]] [RE.rd k_Slot A1 cp2 a0.Arena.Slots, RE.rd (Kd.slice k_Handle) A5 cp6 a0.Kids, RE.rd k_Act A9 cp10 a1, RE.chunks k_Handle cs_row42_2 l_row42_2, RE.rd k_Slot Ab13_0_2 cb13_0_2 b13_0_2, RE.rd (Kd.slice k_Handle) Ab13_1_2 cb13_1_2 b13_1_2, RE.rd k_Slot A142 cp143 v140.1.Arena.Slots, RE.rd (Kd.slice k_Handle) A145 cp146 v140.1.Kids]) ?_ ?_
                       ·cases hbS : (v140.2 == 0)
                        ·have hm := cond_f hbS hmS
                         refine RL_cons (OpR_off (by exact wn2 rfl rfl rfl rfl) (by rfl) (by rfl) ?_)
                         refine RL_cons (OpR_off (by exact wn2 rfl rfl rfl rfl) (by rfl) (by rfl) ?_)
                         refine RL_cons (OpR_off (by exact wn2 rfl rfl rfl rfl) (by rfl) (by rfl) ?_)
                         refine RL_cons (OpR_off (by exact wn3 rfl rfl rfl) (by rfl) (by rfl) ?_)
                         refine RL_cons (OpR_off (by exact wn2 rfl rfl rfl rfl) (by rfl) (by rfl) ?_)
                         refine RL_pure (by exact wn1 rfl rfl rfl rfl) (by rfl) (by rfl) (x_pick_f (v := .bool false) (by rfl) (by rfl)) ?_
                         refine RL_nil ?_
                         exact ⟨⟨congrArg Value.bool (Option.some.inj hm), rfl, rfl, rfl, rfl, rfl, rfl, rfl, trivial⟩, H⟩
                        ·have hm := cond_t hbS hmS
                         refine RL_pure (by exact wn1 rfl rfl rfl rfl) (by rfl) (by rfl) (x_move (v := .int .i64 v165.2) (by rfl)) ?_
                         refine RL_pure (by exact wn1 rfl rfl rfl rfl) (by rfl) (by rfl) (x_neq (by rfl) (by rfl)) ?_
                         refine RL_pure (by exact wn1 rfl rfl rfl rfl) (by rfl) (by rfl) (x_move (v := .bool (v165.2 != 0)) (by rfl)) ?_
                         obtain ⟨b175, hmS, hm⟩ := bind_some hm
                         refine RL_cut 2 (fun r' w' => Agr [(185, .bool b175), (1, .slice A9 a1.length cp10), (2, .pointer (some ⟨b13, 0, none⟩)), (6, .slice A_row42_2 l_row42_2.length c_row42_2), (8, .int .i64 y8_2), (13, .pointer (some ⟨b101, 0, none⟩)), (14, .int .i64 v140.2), (177, .bool false), (180, .bool true)] r' ∧ Sep ok w w' [.blk b13 79 [.slice Ab13_0_2 b13_0_2.length cb13_0_2, .slice Ab13_1_2 b13_1_2.length cb13_1_2], .row (.slice A_row42_2 l_row42_2.length c_row42_2) 81 k_Handle.sz l_row42_2.length cs_row42_2, .blk b61 98 [.int .u8 el54.Kind, .int .i64 el54.A, .int .i64 el54.B, .int .i64 el54.At], .blk b101 79 [.slice A142 v140.1.Arena.Slots.length cp143, .slice A145 v140.1.Kids.length cp146]] [RE.rd k_Slot A1 cp2 a0.Arena.Slots, RE.rd (Kd.slice k_Handle) A5 cp6 a0.Kids, RE.rd k_Act A9 cp10 a1, RE.chunks k_Handle cs_row42_2 l_row42_2, RE.rd k_Slot Ab13_0_2 cb13_0_2 b13_0_2, RE.rd (Kd.slice k_Handle) Ab13_1_2 cb13_1_2 b13_1_2, RE.rd k_Slot A142 cp143 v140.1.Arena.Slots, RE.rd (Kd.slice k_Handle) A145 cp146 v140.1.Kids]) ?_ ?_
                         ·cases hbS : (v165.2 != 0)
                          ·have hm := cond_f hbS hmS
                           refine RL_pure (by exact wn1 rfl rfl rfl rfl) (by rfl) (by rfl) (x_move (v := .bool v165.1) (by rfl)) ?_
                           refine RL_pure (by exact wn1 rfl rfl rfl rfl) (by rfl) (by rfl) (x_pick_f (v := .bool v165.1) (by rfl) (by rfl)) ?_
                           refine RL_nil ?_
                           exact ⟨⟨congrArg Value.bool (Option.some.inj hm), rfl, rfl, rfl, rfl, rfl, rfl, rfl, rfl, trivial⟩, H⟩
                          ·have hm := cond_t hbS hmS
                           refine RL_cons (OpR_off (by exact wn2 rfl rfl rfl rfl) (by rfl) (by rfl) ?_)
                           refine RL_pure (by exact wn1 rfl rfl rfl rfl) (by rfl) (by rfl) (x_pick_t (v := .bool true) (by rfl) (by rfl)) ?_
                           refine RL_nil ?_
                           exact ⟨⟨congrArg Value.bool (Option.some.inj hm), rfl, rfl, rfl, rfl, rfl, rfl, rfl, rfl, trivial⟩, H⟩
                         ·rintro r' w' ⟨hA, H⟩
                          obtain ⟨r176, rfl⟩ := regen _ hA; clear hA
                          obtain ⟨w177, rfl⟩ : ∃ W : World, W = w' := ⟨_, rfl⟩
                          show RL _ _ _ _ _ _ _
                          refine RL_pure (by exact wn1 rfl rfl rfl rfl) (by rfl) (by rfl) (x_pick_t (v := .bool b175) (by rfl) (by rfl)) ?_
                          refine RL_nil ?_
                          exact ⟨⟨congrArg Value.bool (Option.some.inj hm), rfl, rfl, rfl, rfl, rfl, rfl, rfl, trivial⟩, H⟩
                       ·rintro r' w' ⟨hA, H⟩
                        obtain ⟨r178, rfl⟩ := regen _ hA; clear hA
                        obtain ⟨w179, rfl⟩ : ∃ W : World, W = w' := ⟨_, rfl⟩
                        show RL _ _ _ _ _ _ _
                        refine RL_pure (by exact wn0 rfl) (by rfl) (by rfl) (x_pick_f (v := .bool b174) (by rfl) (by rfl)) ?_
                        refine RL_nil ?_
                        exact ⟨⟨congrArg Value.bool (Option.some.inj hm), rfl, rfl, rfl, rfl, rfl, rfl, trivial⟩, H⟩
                      ·have hm := cond_t hbS hmS
                       refine RL_cons (OpR_off (by exact wn2 rfl rfl rfl rfl) (by rfl) (by rfl) ?_)
                       refine RL_cons (OpR_off (by exact wn2 rfl rfl rfl rfl) (by rfl) (by rfl) ?_)
                       refine RL_cons (OpR_off (by exact wn2 rfl rfl rfl rfl) (by rfl) (by rfl) ?_)
                       refine RL_cons (OpR_off (by exact wn3 rfl rfl rfl) (by rfl) (by rfl) ?_)
                       refine RL_cons (OpR_off (by exact wn3 rfl rfl rfl) (by rfl) (by rfl) ?_)
                       refine RL_cons (OpR_off (by exact wn3 rfl rfl rfl) (by rfl) (by rfl) ?_)
                       refine RL_cons (OpR_off (by exact wn3 rfl rfl rfl) (by rfl) (by rfl) ?_)
                       refine RL_cons (OpR_off (by exact wn3 rfl rfl rfl) (by rfl) (by rfl) ?_)
                       refine RL_cons (OpR_off (by exact wn2 rfl rfl rfl rfl) (by rfl) (by rfl) ?_)
                       refine RL_pure (by exact wn0 rfl) (by rfl) (by rfl) (x_pick_t (v := .bool true) (by rfl) (by rfl)) ?_
                       refine RL_nil ?_
                       exact ⟨⟨congrArg Value.bool (Option.some.inj hm), rfl, rfl, rfl, rfl, rfl, rfl, trivial⟩, H⟩
                     ·rintro r' w' ⟨hA, H⟩
                      obtain ⟨r180, rfl⟩ := regen _ hA; clear hA
                      obtain ⟨w181, rfl⟩ : ∃ W : World, W = w' := ⟨_, rfl⟩
                      show RL _ _ _ _ _ _ _
                      refine RL_nil ?_
                      refine W_cond (by rfl) (fun hb => ?_) (fun hb => ?_)
                      ·have hm := cond_t hb hm
                       refine W_seq ?_
                       refine W_region ?_
                       refine RL_pure (by exact wn0 rfl) (by rfl) (by rfl) (x_assign (v := .bool false) (by rfl)) ?_
                       refine RL_nil ?_
                       refine W_ret ?_
                       obtain rfl := Option.some.inj hm
                       exact ⟨[.bool false], (.tmp (by rfl) rfl), rfl, H.none_⟩
                      ·have hm := cond_f hb hm
                       refine W_skip ?_
                       exact ⟨v140.1.Arena.Slots, v140.1.Kids, v140.2, A_row42_2, c_row42_2, cs_row42_2, Ab13_0_2, cb13_0_2, Ab13_1_2, cb13_1_2, A142, cp143, A145, cp146, hm, ⟨rfl, rfl, rfl, rfl, rfl, rfl, trivial⟩, H⟩
                   ·have hm := cond_f hb hm
                    refine W_draw [.take 0, .free 1, .free 2, .take 3, .free 4, .take 5, .free 6, .take 7, .run 8, .free 9, .free 10, .free 11, .tail 12, .free 13] (fun wS => Sep ok w wS [.blk b13 79 [.slice Ab13_0_2 b13_0_2.length cb13_0_2, .slice Ab13_1_2 b13_1_2.length cb13_1_2], .row (.slice A_row42_2 l_row42_2.length c_row42_2) 81 k_Handle.sz l_row42_2.length cs_row42_2, .blk b61 98 [.int .u8 el54.Kind, .int .i64 el54.A, .int .i64 el54.B, .int .i64 el54.At], .blk b101 79 [.slice Ab13_0_2 b13_0_2.length cb13_0_2, .slice Ab13_1_2 b13_1_2.length cb13_1_2]] [RE.rd k_Slot A1 cp2 a0.Arena.Slots, RE.rd (Kd.slice k_Handle) A5 cp6 a0.Kids, RE.rd k_Act A9 cp10 a1, RE.chunks k_Handle cs_row42_2 l_row42_2, RE.rd k_Slot Ab13_0_2 cb13_0_2 b13_0_2, RE.rd (Kd.slice k_Handle) Ab13_1_2 cb13_1_2 b13_1_2]) [12] [1, 2, 4, 6, 9, 10, 11, 13] mixed0 (by kernel_rfl) (by kernel_rfl) (by kernel_rfl) (by rfl) (by exact H.drew) ?_
                    obtain ⟨w182, hW⟩ : ∃ W : World, W = { w123 with drawn := w123.drawn + 1 } := ⟨_, rfl⟩
                    rw [← hW]
                    have H : Sep ok w w182 [.blk b13 79 [.slice Ab13_0_2 b13_0_2.length cb13_0_2, .slice Ab13_1_2 b13_1_2.length cb13_1_2], .row (.slice A_row42_2 l_row42_2.length c_row42_2) 81 k_Handle.sz l_row42_2.length cs_row42_2, .blk b61 98 [.int .u8 el54.Kind, .int .i64 el54.A, .int .i64 el54.B, .int .i64 el54.At], .blk b101 79 [.slice Ab13_0_2 b13_0_2.length cb13_0_2, .slice Ab13_1_2 b13_1_2.length cb13_1_2]] [RE.rd k_Slot A1 cp2 a0.Arena.Slots, RE.rd (Kd.slice k_Handle) A5 cp6 a0.Kids, RE.rd k_Act A9 cp10 a1, RE.chunks k_Handle cs_row42_2 l_row42_2, RE.rd k_Slot Ab13_0_2 cb13_0_2 b13_0_2, RE.rd (Kd.slice k_Handle) Ab13_1_2 cb13_1_2 b13_1_2] := by rw [hW]; exact H.drew
                    clear hW
                    refine PR_take (by rfl) (by rfl) (by rfl) (by exact wn0 rfl) (fun wS (H : Sep ok w wS [.blk b13 79 [.slice Ab13_0_2 b13_0_2.length cb13_0_2, .slice Ab13_1_2 b13_1_2.length cb13_1_2], .row (.slice A_row42_2 l_row42_2.length c_row42_2) 81 k_Handle.sz l_row42_2.length cs_row42_2, .blk b61 98 [.int .u8 el54.Kind, .int .i64 el54.A, .int .i64 el54.B, .int .i64 el54.At], .blk b101 79 [.slice Ab13_0_2 b13_0_2.length cb13_0_2, .slice Ab13_1_2 b13_1_2.length cb13_1_2]] [RE.rd k_Slot A1 cp2 a0.Arena.Slots, RE.rd (Kd.slice k_Handle) A5 cp6 a0.Kids, RE.rd k_Act A9 cp10 a1, RE.chunks k_Handle cs_row42_2 l_row42_2, RE.rd k_Slot Ab13_0_2 cb13_0_2 b13_0_2, RE.rd (Kd.slice k_Handle) Ab13_1_2 cb13_1_2 b13_1_2]) => (x_loadA (j := 0) (vs := [.slice Ab13_0_2 b13_0_2.length cb13_0_2, .slice Ab13_1_2 b13_1_2.length cb13_1_2]) ag79 (by rfl) (H.cells (i := 0) (by rfl)) (by rfl) (by rfl))) ?_
                    refine PR_free (by rfl) (by rfl) (by rfl) (by exact wn0 rfl) (fun wS => (x_move (v := .slice A_row42_2 l_row42_2.length c_row42_2) (by rfl))) ?_
                    refine PR_free (by rfl) (by rfl) (by rfl) (by exact wn0 rfl) (fun wS => (x_fieldAddr fo98_1 (by rfl))) ?_
                    refine PR_take (by rfl) (by rfl) (by rfl) (by exact wn0 rfl) (fun wS (H : Sep ok w wS [.blk b13 79 [.slice Ab13_0_2 b13_0_2.length cb13_0_2, .slice Ab13_1_2 b13_1_2.length cb13_1_2], .row (.slice A_row42_2 l_row42_2.length c_row42_2) 81 k_Handle.sz l_row42_2.length cs_row42_2, .blk b61 98 [.int .u8 el54.Kind, .int .i64 el54.A, .int .i64 el54.B, .int .i64 el54.At], .blk b101 79 [.slice Ab13_0_2 b13_0_2.length cb13_0_2, .slice Ab13_1_2 b13_1_2.length cb13_1_2]] [RE.rd k_Slot A1 cp2 a0.Arena.Slots, RE.rd (Kd.slice k_Handle) A5 cp6 a0.Kids, RE.rd k_Act A9 cp10 a1, RE.chunks k_Handle cs_row42_2 l_row42_2, RE.rd k_Slot Ab13_0_2 cb13_0_2 b13_0_2, RE.rd (Kd.slice k_Handle) Ab13_1_2 cb13_1_2 b13_1_2]) => (x_load (j := 1) (v := .int .i64 el54.A) sc3 (by rfl) (H.cells (i := 2) (by rfl)) (by rfl))) ?_
                    obtain ⟨el183, h184, h185, he186, hm⟩ := idx_some hm
                    obtain ⟨g188, _, hA187, _, _⟩ := H.rowIdx (i := 1) (j := 3) (by rfl) (by rfl) he186
                    refine PR_free (by rfl) (by rfl) (by rfl) (by exact wn0 rfl) (fun wS => (x_indexAddr sl87 sz81 (by rfl) (by rfl) hA187 h184 h185)) ?_
                    refine PR_take (by rfl) (by rfl) (by rfl) (by exact wn0 rfl) (fun wS (H : Sep ok w wS [.blk b13 79 [.slice Ab13_0_2 b13_0_2.length cb13_0_2, .slice Ab13_1_2 b13_1_2.length cb13_1_2], .row (.slice A_row42_2 l_row42_2.length c_row42_2) 81 k_Handle.sz l_row42_2.length cs_row42_2, .blk b61 98 [.int .u8 el54.Kind, .int .i64 el54.A, .int .i64 el54.B, .int .i64 el54.At], .blk b101 79 [.slice Ab13_0_2 b13_0_2.length cb13_0_2, .slice Ab13_1_2 b13_1_2.length cb13_1_2]] [RE.rd k_Slot A1 cp2 a0.Arena.Slots, RE.rd (Kd.slice k_Handle) A5 cp6 a0.Kids, RE.rd k_Act A9 cp10 a1, RE.chunks k_Handle cs_row42_2 l_row42_2, RE.rd k_Slot Ab13_0_2 cb13_0_2 b13_0_2, RE.rd (Kd.slice k_Handle) Ab13_1_2 cb13_1_2 b13_1_2]) => (x_loadA (j := 0) (vs := [.int .i64 el183.Slot, .int .i64 el183.Gen]) ag81 (by rfl) (H.rowFlatAt (n := 2) (i := 1) (j := 3) (by rfl) (by rfl) hA187 he186) (by rfl) (by rfl))) ?_
                    refine PR_free (by rfl) (by rfl) (by rfl) (by exact wn0 rfl) (fun wS => (x_fieldAddr fo98_3 (by rfl))) ?_
                    refine PR_take (by rfl) (by rfl) (by rfl) (by exact wn0 rfl) (fun wS (H : Sep ok w wS [.blk b13 79 [.slice Ab13_0_2 b13_0_2.length cb13_0_2, .slice Ab13_1_2 b13_1_2.length cb13_1_2], .row (.slice A_row42_2 l_row42_2.length c_row42_2) 81 k_Handle.sz l_row42_2.length cs_row42_2, .blk b61 98 [.int .u8 el54.Kind, .int .i64 el54.A, .int .i64 el54.B, .int .i64 el54.At], .blk b101 79 [.slice Ab13_0_2 b13_0_2.length cb13_0_2, .slice Ab13_1_2 b13_1_2.length cb13_1_2]] [RE.rd k_Slot A1 cp2 a0.Arena.Slots, RE.rd (Kd.slice k_Handle) A5 cp6 a0.Kids, RE.rd k_Act A9 cp10 a1, RE.chunks k_Handle cs_row42_2 l_row42_2, RE.rd k_Slot Ab13_0_2 cb13_0_2 b13_0_2, RE.rd (Kd.slice k_Handle) Ab13_1_2 cb13_1_2 b13_1_2]) => (x_load (j := 3) (v := .int .i64 el54.At) sc3 (by rfl) (H.cells (i := 2) (by rfl)) (by rfl))) ?_
                    obtain ⟨v191, hv190, hm⟩ := bind_some hm
                    refine PR_run (by rfl) (O_call (by exact wn0 rfl) (by rfl) (by rfl) (x_callL (by rfl) (args := [.agg #[.slice Ab13_0_2 b13_0_2.length cb13_0_2, .slice Ab13_1_2 b13_1_2.length cb13_1_2], .agg #[.int .i64 el183.Slot, .int .i64 el183.Gen], .int .i64 el54.At]) (by rfl) (cf41 _ _)) (c41 (okS ok w [.blk b13 79 [.slice Ab13_0_2 b13_0_2.length cb13_0_2, .slice Ab13_1_2 b13_1_2.length cb13_1_2], .row (.slice A_row42_2 l_row42_2.length c_row42_2) 81 k_Handle.sz l_row42_2.length cs_row42_2, .blk b61 98 [.int .u8 el54.Kind, .int .i64 el54.A, .int .i64 el54.B, .int .i64 el54.At], .blk b101 79 [.slice Ab13_0_2 b13_0_2.length cb13_0_2, .slice Ab13_1_2 b13_1_2.length cb13_1_2]]) K w182 (⟨(⟨b13_0_2⟩ : S_Arena), b13_1_2⟩ : S_Graph) Ab13_0_2 cb13_0_2 Ab13_1_2 cb13_1_2 el183 el54.At (H.rd (i := 4) (by rfl)) (H.rd (i := 5) (by rfl)) v191 hv190) ?_)
                    rintro e w192 ⟨A193, cp194, A196, cp197, rfl, H2⟩
                    have H : Sep ok w w192 [.blk b13 79 [.slice Ab13_0_2 b13_0_2.length cb13_0_2, .slice Ab13_1_2 b13_1_2.length cb13_1_2], .row (.slice A_row42_2 l_row42_2.length c_row42_2) 81 k_Handle.sz l_row42_2.length cs_row42_2, .blk b61 98 [.int .u8 el54.Kind, .int .i64 el54.A, .int .i64 el54.B, .int .i64 el54.At], .blk b101 79 [.slice Ab13_0_2 b13_0_2.length cb13_0_2, .slice Ab13_1_2 b13_1_2.length cb13_1_2]] [RE.rd k_Slot A1 cp2 a0.Arena.Slots, RE.rd (Kd.slice k_Handle) A5 cp6 a0.Kids, RE.rd k_Act A9 cp10 a1, RE.chunks k_Handle cs_row42_2 l_row42_2, RE.rd k_Slot Ab13_0_2 cb13_0_2 b13_0_2, RE.rd (Kd.slice k_Handle) Ab13_1_2 cb13_1_2 b13_1_2, RE.rd k_Slot A193 cp194 v191.1.Arena.Slots, RE.rd (Kd.slice k_Handle) A196 cp197 v191.1.Kids] := H.call H2
                    clear H2
                    refine ⟨_, rfl, (Sep.takeR H 6), ?_⟩
                    show PR _ _ _ _ _ _ _ _
                    refine PR_free (by rfl) (by rfl) (by rfl) (by exact wn0 rfl) (fun wS => (x_move (v := tup [.agg #[.slice A193 v191.1.Arena.Slots.length cp194, .slice A196 v191.1.Kids.length cp197], .int .i64 v191.2]) (by rfl))) ?_
                    refine PR_free (by rfl) (by rfl) (by rfl) (by exact wn0 rfl) (fun wS => (x_extract (v := .agg #[.slice A193 v191.1.Arena.Slots.length cp194, .slice A196 v191.1.Kids.length cp197]) (by rfl) (by rfl))) ?_
                    refine PR_free (by rfl) (by rfl) (by rfl) (by exact wn0 rfl) (fun wS => (x_extract (v := .int .i64 v191.2) (by rfl) (by rfl))) ?_
                    refine PR_tail (by rfl) (O_store (i := 3) (off := 0) (by exact wn0 rfl) (by rfl) (by rfl) H (by rfl) (vs := [.slice A193 v191.1.Arena.Slots.length cp194, .slice A196 v191.1.Kids.length cp197]) (by rfl) sz79 (by rfl) (by rfl) (by rfl) (fun w199 (H : Sep ok w w199 [.blk b13 79 [.slice Ab13_0_2 b13_0_2.length cb13_0_2, .slice Ab13_1_2 b13_1_2.length cb13_1_2], .row (.slice A_row42_2 l_row42_2.length c_row42_2) 81 k_Handle.sz l_row42_2.length cs_row42_2, .blk b61 98 [.int .u8 el54.Kind, .int .i64 el54.A, .int .i64 el54.B, .int .i64 el54.At], .blk b101 79 [.slice A193 v191.1.Arena.Slots.length cp194, .slice A196 v191.1.Kids.length cp197]] [RE.rd k_Slot A1 cp2 a0.Arena.Slots, RE.rd (Kd.slice k_Handle) A5 cp6 a0.Kids, RE.rd k_Act A9 cp10 a1, RE.chunks k_Handle cs_row42_2 l_row42_2, RE.rd k_Slot Ab13_0_2 cb13_0_2 b13_0_2, RE.rd (Kd.slice k_Handle) Ab13_1_2 cb13_1_2 b13_1_2, RE.rd k_Slot A193 cp194 v191.1.Arena.Slots, RE.rd (Kd.slice k_Handle) A196 cp197 v191.1.Kids]) => ?_))
                    refine PR_free (by rfl) (by rfl) (by rfl) (by exact wn0 rfl) (fun wS => (x_assign (v := .int .i64 v191.2) (by rfl))) ?_
                    refine PR_nil ?_
                    exact ⟨v191.1.Arena.Slots, v191.1.Kids, v191.2, A_row42_2, c_row42_2, cs_row42_2, Ab13_0_2, cb13_0_2, Ab13_1_2, cb13_1_2, A193, cp194, A196, cp197, hm, ⟨rfl, rfl, rfl, rfl, rfl, rfl, trivial⟩, H⟩
                ·rintro r' w' ⟨b101_0_3, b101_1_3, y14_3, A_row42_2, c_row42_2, cs_row42_2, Ab13_0_2, cb13_0_2, Ab13_1_2, cb13_1_2, Ab101_0_3, cb101_0_3, Ab101_1_3, cb101_1_3, hm, hA, H⟩
                 obtain ⟨r200, rfl⟩ := regen _ hA; clear hA
                 obtain ⟨w201, rfl⟩ : ∃ W : World, W = w' := ⟨_, rfl⟩
                 unfold m9_j3 at hm
                 refine W_seq ?_
                 refine W_seq ?_
                 refine W_region ?_
                 refine RL_pure (by exact wn0 rfl) (by rfl) (by rfl) (x_move (v := .int .i64 y14_3) (by rfl)) ?_
                 refine RL_pure (by exact wn0 rfl) (by rfl) (by rfl) (x_neq (by rfl) (by rfl)) ?_
                 refine RL_nil ?_
                 refine W_cond (by rfl) (fun hb => ?_) (fun hb => ?_)
                 ·have hm := cond_t hb hm
                  refine W_exit ?_
                  refine W_region ?_
                  refine RL_pure (by exact wn0 rfl) (by rfl) (by rfl) (x_move (v := .int .i64 y8_2) (by rfl)) ?_
                  obtain ⟨x202, ex202, qx202, ux202, hm⟩ := ck_some hm
                  refine RL_pure (by exact wn0 rfl) (by rfl) (by rfl) (x_add (by rfl) (by rfl) ux202) ?_
                  refine RL_pure (by exact wn0 rfl) (by rfl) (by rfl) (x_assign (v := .int .i64 x202) (by rfl)) ?_
                  refine RL_nil ?_
                  subst hrec2
                  exact ⟨k2, Nat.lt_succ_self k2, l_row42_2, b13_0_2, b13_1_2, x202, A_row42_2, c_row42_2, cs_row42_2, Ab13_0_2, cb13_0_2, Ab13_1_2, cb13_1_2, hm, ⟨rfl, rfl, rfl, rfl, trivial⟩, ((H).takeL 2).pick [0, 1, 2, 3, 4, 5]⟩
                 ·have hm := cond_f hb hm
                  refine W_skip ?_
                  refine W_seq ?_
                  refine W_region ?_
                  refine RL_pure (by exact wn0 rfl) (by rfl) (by rfl) (x_loadA (j := 0) (vs := [.slice Ab101_0_3 b101_0_3.length cb101_0_3, .slice Ab101_1_3 b101_1_3.length cb101_1_3]) ag79 (by rfl) (H.cells (i := 3) (by rfl)) (by rfl) (by rfl)) ?_
                  refine RL_cons (O_store (i := 0) (off := 0) (by exact wn0 rfl) (by rfl) (by rfl) H (by rfl) (vs := [.slice Ab101_0_3 b101_0_3.length cb101_0_3, .slice Ab101_1_3 b101_1_3.length cb101_1_3]) (by rfl) sz79 (by rfl) (by rfl) (by rfl) (fun w203 (H : Sep ok w w203 [.blk b13 79 [.slice Ab101_0_3 b101_0_3.length cb101_0_3, .slice Ab101_1_3 b101_1_3.length cb101_1_3], .row (.slice A_row42_2 l_row42_2.length c_row42_2) 81 k_Handle.sz l_row42_2.length cs_row42_2, .blk b61 98 [.int .u8 el54.Kind, .int .i64 el54.A, .int .i64 el54.B, .int .i64 el54.At], .blk b101 79 [.slice Ab101_0_3 b101_0_3.length cb101_0_3, .slice Ab101_1_3 b101_1_3.length cb101_1_3]] [RE.rd k_Slot A1 cp2 a0.Arena.Slots, RE.rd (Kd.slice k_Handle) A5 cp6 a0.Kids, RE.rd k_Act A9 cp10 a1, RE.chunks k_Handle cs_row42_2 l_row42_2, RE.rd k_Slot Ab13_0_2 cb13_0_2 b13_0_2, RE.rd (Kd.slice k_Handle) Ab13_1_2 cb13_1_2 b13_1_2, RE.rd k_Slot Ab101_0_3 cb101_0_3 b101_0_3, RE.rd (Kd.slice k_Handle) Ab101_1_3 cb101_1_3 b101_1_3]) => ?_))
                  refine RL_nil ?_
                  refine W_seq ?_
                  refine W_region ?_
                  refine RL_pure (by exact wn0 rfl) (by rfl) (by rfl) (x_loadA (j := 0) (vs := [.slice Ab101_0_3 b101_0_3.length cb101_0_3, .slice Ab101_1_3 b101_1_3.length cb101_1_3]) ag79 (by rfl) (H.cells (i := 0) (by rfl)) (by rfl) (by rfl)) ?_
                  obtain ⟨v205, hv204, hm⟩ := bind_some hm
                  refine RL_cons (O_call (by exact wn0 rfl) (by rfl) (by rfl) (x_callL (by rfl) (args := [.agg #[.slice Ab101_0_3 b101_0_3.length cb101_0_3, .slice Ab101_1_3 b101_1_3.length cb101_1_3]]) (by rfl) (cf43 _ _)) (c43 okT K w203 (⟨(⟨b101_0_3⟩ : S_Arena), b101_1_3⟩ : S_Graph) Ab101_0_3 cb101_0_3 Ab101_1_3 cb101_1_3 (H.rd (i := 6) (by rfl)).any (H.rd (i := 7) (by rfl)).any v205 hv204) ?_)
                  rintro e w206 ⟨rfl, H2⟩
                  have H : Sep ok w w206 [.blk b13 79 [.slice Ab101_0_3 b101_0_3.length cb101_0_3, .slice Ab101_1_3 b101_1_3.length cb101_1_3], .row (.slice A_row42_2 l_row42_2.length c_row42_2) 81 k_Handle.sz l_row42_2.length cs_row42_2, .blk b61 98 [.int .u8 el54.Kind, .int .i64 el54.A, .int .i64 el54.B, .int .i64 el54.At], .blk b101 79 [.slice Ab101_0_3 b101_0_3.length cb101_0_3, .slice Ab101_1_3 b101_1_3.length cb101_1_3]] [RE.rd k_Slot A1 cp2 a0.Arena.Slots, RE.rd (Kd.slice k_Handle) A5 cp6 a0.Kids, RE.rd k_Act A9 cp10 a1, RE.chunks k_Handle cs_row42_2 l_row42_2, RE.rd k_Slot Ab13_0_2 cb13_0_2 b13_0_2, RE.rd (Kd.slice k_Handle) Ab13_1_2 cb13_1_2 b13_1_2, RE.rd k_Slot Ab101_0_3 cb101_0_3 b101_0_3, RE.rd (Kd.slice k_Handle) Ab101_1_3 cb101_1_3 b101_1_3] := H.below H2.base
                  clear H2
                  refine ⟨_, rfl, ?_⟩
                  show RL _ _ _ _ _ _ _
                  refine RL_pure (by exact wn0 rfl) (by rfl) (by rfl) (x_neq (by rfl) (by rfl)) ?_
                  refine RL_nil ?_
                  refine W_cond (by rfl) (fun hb => ?_) (fun hb => ?_)
                  ·have hm := cond_t hb hm
                   refine W_seq ?_
                   refine W_region ?_
                   refine RL_pure (by exact wn0 rfl) (by rfl) (by rfl) (x_assign (v := .bool false) (by rfl)) ?_
                   refine RL_nil ?_
                   refine W_ret ?_
                   obtain rfl := Option.some.inj hm
                   exact ⟨[.bool false], (.tmp (by rfl) rfl), rfl, H.none_⟩
                  ·have hm := cond_f hb hm
                   refine W_skip ?_
                   refine W_region ?_
                   refine RL_pure (by exact wn0 rfl) (by rfl) (by rfl) (x_move (v := .int .i64 y8_2) (by rfl)) ?_
                   obtain ⟨x207, ex207, qx207, ux207, hm⟩ := ck_some hm
                   refine RL_pure (by exact wn0 rfl) (by rfl) (by rfl) (x_add (by rfl) (by rfl) ux207) ?_
                   refine RL_pure (by exact wn0 rfl) (by rfl) (by rfl) (x_assign (v := .int .i64 x207) (by rfl)) ?_
                   refine RL_nil ?_
                   subst hrec2
                   exact ⟨k2, Nat.lt_succ_self k2, l_row42_2, b101_0_3, b101_1_3, x207, A_row42_2, c_row42_2, cs_row42_2, Ab101_0_3, cb101_0_3, Ab101_1_3, cb101_1_3, hm, ⟨rfl, rfl, rfl, rfl, trivial⟩, ((H).takeL 2).pick [0, 1, 2, 3, 6, 7]⟩
          ·have hm := cond_f hb hm
           refine W_exit ?_
           refine W_seq ?_
           refine W_region ?_
           refine RL_pure (by exact wn0 rfl) (by rfl) (by rfl) (x_loadA (j := 0) (vs := [.slice Ab13_0_2 b13_0_2.length cb13_0_2, .slice Ab13_1_2 b13_1_2.length cb13_1_2]) ag79 (by rfl) (H.cells (i := 0) (by rfl)) (by rfl) (by rfl)) ?_
           obtain ⟨v209, hv208, hm⟩ := bind_some hm
           refine RL_cons (O_call (by exact wn0 rfl) (by rfl) (by rfl) (x_callL (by rfl) (args := [.agg #[.slice Ab13_0_2 b13_0_2.length cb13_0_2, .slice Ab13_1_2 b13_1_2.length cb13_1_2]]) (by rfl) (cf47 _ _)) (c47 okT K w53 (⟨(⟨b13_0_2⟩ : S_Arena), b13_1_2⟩ : S_Graph) Ab13_0_2 cb13_0_2 Ab13_1_2 cb13_1_2 (H.rd (i := 4) (by rfl)).any (H.rd (i := 5) (by rfl)).any v209 hv208) ?_)
           rintro e w210 ⟨rfl, H2⟩
           have H : Sep ok w w210 [.blk b13 79 [.slice Ab13_0_2 b13_0_2.length cb13_0_2, .slice Ab13_1_2 b13_1_2.length cb13_1_2], .row (.slice A_row42_2 l_row42_2.length c_row42_2) 81 k_Handle.sz l_row42_2.length cs_row42_2] [RE.rd k_Slot A1 cp2 a0.Arena.Slots, RE.rd (Kd.slice k_Handle) A5 cp6 a0.Kids, RE.rd k_Act A9 cp10 a1, RE.chunks k_Handle cs_row42_2 l_row42_2, RE.rd k_Slot Ab13_0_2 cb13_0_2 b13_0_2, RE.rd (Kd.slice k_Handle) Ab13_1_2 cb13_1_2 b13_1_2] := H.below H2.base
           clear H2
           refine ⟨_, rfl, ?_⟩
           show RL _ _ _ _ _ _ _
           refine RL_pure (by exact wn0 rfl) (by rfl) (by rfl) (x_assign (v := .bool v209) (by rfl)) ?_
           refine RL_nil ?_
           refine W_ret ?_
           obtain rfl := Option.some.inj hm
           exact ⟨[.bool v209], (.tmp (by rfl) rfl), rfl, H.none_⟩
end Go.Proofs.YtobkigllalbkiaaV.M

/- NodesNever, in plain Lean: its model answers true. -/
set_option linter.unusedVariables false
set_option linter.unusedSimpArgs false
namespace Go.Proofs.YtobkigllalbkiaaV.M
open Go.RowKit Go.Proofs.YtobkigllalbkiaaV
open Classical
/-- No row takes all of a process's addresses. -/
def RowsB (g : S_Graph) : Prop := ∀ l ∈ g.Kids, l.length ≤ 140737488355328
theorem m44_eq {K : Nat} (hK : 1000 ≤ K) (g : S_Graph) (hB : RowsB g) : ∃ b, m44 K g = some b ∧ (b = false → Small g) := by
  unfold m44
  by_cases c1 : 200 < g.Arena.Slots.length
  · rw [decide_eq_true (by omega : (200 : Int) < (g.Arena.Slots.length : Int))]
    exact ⟨true, rfl, fun h => by cases h⟩
  rw [decide_eq_false (by omega : ¬ (200 : Int) < (g.Arena.Slots.length : Int)), cond_false, Option.bind_some]
  by_cases c2 : 200 < g.Kids.length
  · rw [decide_eq_true (by omega : (200 : Int) < (g.Kids.length : Int))]
    exact ⟨true, rfl, fun h => by cases h⟩
  rw [decide_eq_false (by omega : ¬ (200 : Int) < (g.Kids.length : Int)), cond_false]
  refine L.loop (σ := Int × Int) g.Kids.length (fun k s => m44_l1 K g k s.1 s.2) (fun rec s => m44_l1b K g (fun a b => rec (a, b)) s.1 s.2) (fun k => rfl)
    (fun i s => s.2 = (i : Int) ∧ 0 ≤ s.1 ∧ s.1 ≤ 400 ∧ ∀ (j : Nat) (l : List S_Handle), j < i → g.Kids[j]? = some l → l.length ≤ 400) (fun o => ∃ b, o = some b ∧ (b = false → Small g)) ?_ ?_ K 0 (0, 0) (Nat.zero_le _) (by omega) ⟨rfl, by decide, by decide, fun j l hj => absurd hj (Nat.not_lt_zero _)⟩
  · rintro i ⟨n, y⟩ rec hi ⟨hy, h0, h4, hI⟩ hrec
    simp only at hy h0 h4 hI hrec ⊢
    subst hy
    have g1 := L.lt_get hi
    generalize g.Kids[i] = l at g1
    have hb := hB l (List.mem_iff_getElem?.2 ⟨i, g1⟩)
    unfold m44_l1b
    rw [L.dec_t hi, cond_true, L.idx_nat g1, L.ck_in (by omega) (by omega)]
    by_cases c3 : 400 < n + (l.length : Int)
    · rw [decide_eq_true c3]
      exact ⟨true, rfl, fun h => by cases h⟩
    · rw [decide_eq_false c3, cond_false, L.ck_succ (by omega)]
      refine hrec (n + (l.length : Int), ((i + 1 : Nat) : Int)) ⟨rfl, by simp only; omega, by simp only; omega, fun j l' hj hl' => ?_⟩
      by_cases hji : j = i
      · subst hji
        rw [g1] at hl'; cases hl'; omega
      · exact hI j l' (by omega) hl'
  · rintro ⟨n, y⟩ rec ⟨hy, h0, h4, hI⟩
    simp only at hy h0 h4 hI ⊢
    subst hy
    unfold m44_l1b
    rw [L.dec_f (Nat.lt_irrefl _), cond_false]
    exact ⟨false, rfl, fun _ => ⟨by omega, by omega, fun j l hl => by have := hI j l (List.getElem?_eq_some_iff.1 hl).1 hl; omega⟩⟩
theorem m47_row {K : Nat} (hK : 1000 ≤ K) {g : S_Graph} (hM : May g) {i : Nat} {l : List S_Handle} (g1 : g.Kids[i]? = some l) (rec1 : Int → Option Bool) : m47_l2 K g (i : Int) rec1 K 0 = rec1 ((i + 1 : Nat) : Int) := by
  have h128 := hM.arena.1
  have hlen := hM.len
  have hi := (List.getElem?_eq_some_iff.1 g1).1
  have g2 := L.lt_get (l := g.Arena.Slots) (i := i) (by omega)
  generalize g.Arena.Slots[i]'(by omega) = s at g2
  have h16 := (hM.rows i l g1).1
  refine L.loop (σ := Int) l.length (fun k s => m47_l2 K g (i : Int) rec1 k s) (fun rec s => m47_l2b K g (i : Int) rec1 rec s) (fun k => rfl)
    (fun k s => s = (k : Int)) (fun o => o = rec1 ((i + 1 : Nat) : Int)) ?_ ?_ K 0 0 (Nat.zero_le _) (by omega) rfl
  · rintro k y rec hk rfl hrec
    have g3 := L.lt_get hk
    generalize l[k] = x at g3
    have hx : x ∈ l := List.mem_iff_getElem?.2 ⟨k, g3⟩
    unfold m47_l2b
    rw [L.idx_nat g1, L.dec_t hk, cond_true, L.idx_nat g1, L.idx_nat g3, L.idx_nat g2, m46_eq hK, Option.bind_some, if_pos hM, if_pos, decide_eq_false]
    · rw [show ((bif ((false, (0 : Int)).2 != 0) then some true else some (false, (0 : Int)).1) : Option Bool) = some false from rfl, Option.bind_some, cond_false, L.ck_succ (by omega)]
      exact hrec _ rfl
    · exact fun hr => hM.loose i l g1 ⟨s, g2, x, hx, hr⟩
    · refine ⟨(hM.rows i l g1).2.2 x hx, by simp, s, by simpa using g2, rfl, ?_⟩
      obtain ⟨s2, g4, q⟩ := (hM.rows i l g1).2.1 (by rintro rfl; cases hx)
      rw [g2] at g4; cases g4; exact q
  · rintro y rec rfl
    unfold m47_l2b
    rw [L.idx_nat g1, L.dec_f (Nat.lt_irrefl _), cond_false, L.ck_succ (by omega)]
theorem m47_eq {K : Nat} (hK : 1000 ≤ K) {g : S_Graph} (hM : May g) : m47 K g = some true := by
  have h128 := hM.arena.1
  have hlen := hM.len
  refine L.loop (σ := Int) g.Kids.length (fun k s => m47_l1 K g k s) (fun rec s => m47_l1b K g rec s) (fun k => rfl)
    (fun i s => s = (i : Int)) (fun o => o = some true) ?_ ?_ K 0 0 (Nat.zero_le _) (by omega) rfl
  · rintro i y rec hi rfl hrec
    unfold m47_l1b
    rw [L.dec_t hi, cond_true, m47_row hK hM (L.lt_get hi)]
    exact hrec _ rfl
  · rintro y rec rfl
    unfold m47_l1b
    rw [L.dec_f (Nat.lt_irrefl _), cond_false]
section acts
variable {K : Nat} {made : List S_Handle} {sl : List S_Slot} {ks : List (List S_Handle)} {i : Nat} {rec2 : List S_Handle → List S_Slot → List (List S_Handle) → Int → Option Bool}
/-- Behind an act: it was refused, or what came of it may be. -/
theorem m9_behind (hK : 1000 ≤ K) (hM : May ⟨⟨sl⟩, ks⟩) (hi : i < 100) (hrec : ∀ s k, May ⟨⟨s⟩, k⟩ → rec2 made s k ((i + 1 : Nat) : Int) = some true) (s' : List S_Slot) (k' : List (List S_Handle)) (e : Int) (he : e ≠ 0 ∨ May ⟨⟨s'⟩, k'⟩) :
    m9_j3 K made sl ks (i : Int) rec2 s' k' e = some true := by
  unfold m9_j3
  by_cases h0 : e = 0
  · subst h0
    have hM' := he.resolve_left (fun h => h rfl)
    rw [show ((0 : Int) != 0) = false from rfl, cond_false, m43_eq hK, if_pos hM', Option.bind_some, show ((0 : Int) != 0) = false from rfl, cond_false, L.ck_succ (by omega)]
    exact hrec _ _ hM'
  · rw [show (e != 0) = true by simpa using h0, cond_true, L.ck_succ (by omega)]
    exact hrec _ _ hM
theorem mkG_ok {g : S_Graph} (hM : May g) : (mkG (decide (May g)) g).2.2 ≠ 0 ∨ May (mkG (decide (May g)) g).1 := by
  unfold mkG
  rw [decide_eq_true hM, if_pos rfl]
  cases hmk : mkA g.Arena.Slots with
  | none => left; exact (by decide : (9 : Int) ≠ 0)
  | some x => right; exact mk_may hM hmk
theorem link_test (e : Int) (u : Bool × Int) (h1 : e = 60 → u = (true, 0)) (h2 : e = 0 → u = (false, 0)) (R : Option Bool) :
    ((bif (e == 60) then ((bif (u.2 != 0) then some true else some (!u.1)).bind fun b168 => some b168) else some false).bind fun b167 => ((bif b167 then some true else ((bif (e == 0) then ((bif (u.2 != 0) then some true else some u.1).bind fun b175 => some b175) else some false).bind fun b174 => some b174)).bind fun b173 => (bif b173 then some false else R))) = R := by
  by_cases e60 : e = 60
  · rw [h1 e60, e60]; rfl
  · by_cases e0 : e = 0
    · rw [h2 e0, e0]; rfl
    · rw [show (e == 60) = false by simpa using e60, show (e == 0) = false by simpa using e0]; rfl
theorem unlinkG_ok {g : S_Graph} {p : S_Handle} {at_ : Int} (hM : May g) : (unlinkG (decide (May g)) (decide (HeldA g.Arena p)) g p at_).2 ≠ 0 ∨ May (unlinkG (decide (May g)) (decide (HeldA g.Arena p)) g p at_).1 := by
  unfold unlinkG
  rw [decide_eq_true hM, if_pos rfl]
  by_cases hH : HeldA g.Arena p
  · rw [decide_eq_true hH, if_pos rfl]
    split
    · left; exact (by decide : (2 : Int) ≠ 0)
    · right
      exact unlink_may hM hH _ _ (by omega)
  · rw [decide_eq_false hH, if_neg (by simp)]; left; exact (by decide : (50 : Int) ≠ 0)
theorem killG_ok {g : S_Graph} {h : S_Handle} (hM : May g) : (killG (decide (May g)) (decide (HeldA g.Arena h)) g h).2 ≠ 0 ∨ May (killG (decide (May g)) (decide (HeldA g.Arena h)) g h).1 := by
  unfold killG
  rw [decide_eq_true hM, if_pos rfl]
  by_cases hH : HeldA g.Arena h
  · rw [decide_eq_true hH, if_pos rfl]
    right; exact kill_may hM hH
  · rw [decide_eq_false hH, if_neg (by simp)]; left; exact (by decide : (50 : Int) ≠ 0)
theorem linkG_ok {g : S_Graph} {p c : S_Handle} {at_ : Int} (hM : May g) :
    let r := linkG (decide (May g)) (decide (HeldA g.Arena p ∧ HeldA g.Arena c)) (decide (Reach g c p)) g p c at_
    (r.2 ≠ 0 ∨ May r.1) ∧ (r.2 = 60 → HeldA g.Arena p ∧ HeldA g.Arena c ∧ Reach g c p) ∧ (r.2 = 0 → HeldA g.Arena p ∧ HeldA g.Arena c ∧ ¬ Reach g c p) := by
  intro r
  obtain ⟨r', hr'⟩ : ∃ r', linkG (decide (May g)) (decide (HeldA g.Arena p ∧ HeldA g.Arena c)) (decide (Reach g c p)) g p c at_ = r' := ⟨_, rfl⟩
  have hr : r = r' := hr'
  rw [hr]
  clear hr
  unfold linkG at hr'
  rw [decide_eq_true hM, if_pos rfl] at hr'
  by_cases hH : HeldA g.Arena p ∧ HeldA g.Arena c
  · rw [decide_eq_true hH, if_pos rfl] at hr'
    split at hr'
    · subst hr'; exact ⟨.inl (by decide), (fun h => absurd h (by decide)), fun h => absurd h (by decide)⟩
    · split at hr'
      · subst hr'; exact ⟨.inl (by decide), (fun h => absurd h (by decide)), fun h => absurd h (by decide)⟩
      · rename_i h16
        by_cases hR : Reach g c p
        · rw [decide_eq_true hR, if_pos rfl] at hr'
          subst hr'; exact ⟨.inl (by decide), (fun _ => ⟨hH.1, hH.2, hR⟩), fun h => absurd h (by decide)⟩
        · rw [decide_eq_false hR, if_neg (by simp)] at hr'
          subst hr'; exact ⟨.inr (link_may hM hH.1 hH.2 _ (by omega) hR), (fun h => absurd h (by decide : ¬ (0 : Int) = 60)), fun _ => ⟨hH.1, hH.2, hR⟩⟩
  · rw [decide_eq_false hH, if_neg (by simp)] at hr'
    subst hr'; exact ⟨.inl (by decide), (fun h => absurd h (by decide)), fun h => absurd h (by decide)⟩
/-- Behind a link: it was refused as a loop just if it would have made one. -/
theorem m9_link {el : S_Act} (hK : 1000 ≤ K) (hM : May ⟨⟨sl⟩, ks⟩) (hi : i < 100) (hrec : ∀ s k, May ⟨⟨s⟩, k⟩ → rec2 made s k ((i + 1 : Nat) : Int) = some true) (hA0 : 0 ≤ el.A) (hA1 : el.A < (made.length : Int)) (hB0 : 0 ≤ el.B) (hB1 : el.B < (made.length : Int)) (b : Bool) :
    m9_j4 K made sl ks (i : Int) rec2 el b = some true := by
  have ga := L.lt_get (l := made) (i := el.A.toNat) (by omega)
  have gb := L.lt_get (l := made) (i := el.B.toNat) (by omega)
  generalize made[el.A.toNat]'(by omega) = p at ga
  generalize made[el.B.toNat]'(by omega) = c at gb
  unfold m9_j4
  cases b with
  | false =>
    rw [cond_false, L.idx_in hA0 ga, m41_eq hK, Option.bind_some]
    exact m9_behind hK hM hi hrec _ _ _ (unlinkG_ok hM)
  | true =>
    rw [cond_true, L.idx_in hA0 ga, L.idx_in hB0 gb, m38_eq hK, Option.bind_some, L.idx_in hB0 gb, L.idx_in hA0 ga, m46_eq hK, Option.bind_some, if_pos hM]
    obtain ⟨k1, k2, k3⟩ := linkG_ok (p := p) (c := c) (at_ := el.At) hM
    generalize linkG (decide (May ⟨⟨sl⟩, ks⟩)) (decide (HeldA (⟨⟨sl⟩, ks⟩ : S_Graph).Arena p ∧ HeldA (⟨⟨sl⟩, ks⟩ : S_Graph).Arena c)) (decide (Reach ⟨⟨sl⟩, ks⟩ c p)) ⟨⟨sl⟩, ks⟩ p c el.At = r at k1 k2 k3 ⊢
    have fin := m9_behind hK hM hi hrec r.1.Arena.Slots r.1.Kids r.2 k1
    rw [link_test]
    · exact fin
    · intro e60
      obtain ⟨h1, h2, h3⟩ := k2 e60
      rw [if_pos ⟨h2, h1⟩, decide_eq_true h3]
    · intro e0
      obtain ⟨h1, h2, h3⟩ := k3 e0
      rw [if_pos ⟨h2, h1⟩, decide_eq_false h3]
end acts
theorem m9_acts {K : Nat} (hK : 1000 ≤ K) (l : List S_Act) (hl : l.length ≤ 60) {g : S_Graph} (hM : May g) {made : List S_Handle} (hm : made.length ≤ 1000) : m9_l2 K l K made g.Arena.Slots g.Kids 0 = some true := by
  refine L.loop (σ := List S_Handle × List S_Slot × List (List S_Handle) × Int) l.length (fun k s => m9_l2 K l k s.1 s.2.1 s.2.2.1 s.2.2.2) (fun rec s => m9_l2b K l (fun a b c d => rec (a, b, c, d)) s.1 s.2.1 s.2.2.1 s.2.2.2) (fun k => rfl)
    (fun i s => s.2.2.2 = (i : Int) ∧ s.1.length ≤ 1000 + i ∧ May ⟨⟨s.2.1⟩, s.2.2.1⟩) (fun o => o = some true) ?_ ?_ K 0 (made, g.Arena.Slots, g.Kids, 0) (Nat.zero_le _) (by omega) ⟨rfl, hm, hM⟩
  · rintro i ⟨made, sl, ks, y⟩ rec hi ⟨hy, hml, hM⟩ hrec
    simp only at hy hml hM hrec ⊢
    subst hy
    have g1 := L.lt_get hi
    generalize l[i] = el at g1
    have hi60 : i < 60 := by omega
    have next : ∀ s k, May ⟨⟨s⟩, k⟩ → rec (made, s, k, ((i + 1 : Nat) : Int)) = some true := fun s k h => hrec _ ⟨rfl, by simp only; omega, h⟩
    unfold m9_l2b
    rw [L.dec_t hi, cond_true, L.idx_nat g1]
    cases c0 : (Int.tmod el.Kind 5 == 0) with
    | true =>
      rw [cond_true, m45_eq hK, Option.bind_some]
      have k1 := mkG_ok hM
      generalize mkG (decide (May ⟨⟨sl⟩, ks⟩)) ⟨⟨sl⟩, ks⟩ = r at k1 ⊢
      by_cases e0 : r.2.2 = 0
      · rw [show (r.2.2 == 0) = true by simpa using e0, cond_true, L.apd_in (by omega), L.ck_succ (by omega)]
        exact hrec _ ⟨rfl, by simp only [List.length_append, List.length_singleton]; omega, k1.resolve_left (fun h => h e0)⟩
      · rw [show (r.2.2 == 0) = false by simpa using e0, cond_false, L.ck_succ (by omega)]
        exact next _ _ hM
    | false =>
      rw [cond_false]
      by_cases cA : el.A < 0
      · rw [decide_eq_true cA]
        repeat first | rw [cond_true] | rw [Option.bind_some]
        rw [L.ck_succ (by omega)]; exact next _ _ hM
      rw [decide_eq_false cA, cond_false, Option.bind_some]
      by_cases cA2 : (made.length : Int) ≤ el.A
      · rw [decide_eq_true cA2]
        repeat first | rw [cond_true] | rw [Option.bind_some]
        rw [L.ck_succ (by omega)]; exact next _ _ hM
      rw [decide_eq_false cA2, cond_false, Option.bind_some]
      by_cases cB : el.B < 0
      · rw [decide_eq_true cB]
        repeat first | rw [cond_true] | rw [Option.bind_some]
        rw [L.ck_succ (by omega)]; exact next _ _ hM
      rw [decide_eq_false cB, cond_false, Option.bind_some]
      by_cases cB2 : (made.length : Int) ≤ el.B
      · rw [decide_eq_true cB2]
        repeat first | rw [cond_true] | rw [Option.bind_some]
        rw [L.ck_succ (by omega)]; exact next _ _ hM
      rw [decide_eq_false cB2, cond_false]
      have lk := fun b => m9_link (el := el) (rec2 := fun a b c d => rec (a, b, c, d)) hK hM (by omega : i < 100) next (by omega) (by omega) (by omega) (by omega) b
      cases c1 : (Int.tmod el.Kind 5 == 1) with
      | true =>
        have ga := L.lt_get (l := made) (i := el.A.toNat) (by omega)
        rw [cond_true, L.idx_in (by omega) ga, m40_eq hK, Option.bind_some]
        exact m9_behind hK hM (by omega) next _ _ _ (killG_ok hM)
      | false =>
        rw [cond_false, lk, lk]
        cases (Int.tmod el.Kind 5 == 2) <;> rfl
  · rintro ⟨made, sl, ks, y⟩ rec ⟨hy, hml, hM⟩
    simp only at hy hml hM ⊢
    subst hy
    unfold m9_l2b
    rw [L.dec_f (Nat.lt_irrefl _), cond_false, m47_eq hK hM, Option.bind_some]
theorem m9_true {K : Nat} (hK : 1000 ≤ K) (hal : m42 K = some true) (g : S_Graph) (l : List S_Act) (hB : RowsB g) : m9 K g l = some true := by
  unfold m9
  obtain ⟨b, e, _⟩ := m44_eq hK g hB
  rw [hal, Option.bind_some, e, Option.bind_some]
  cases b with
  | true => rfl
  | false =>
    rw [cond_false, Option.bind_some]
    by_cases hl : 60 < l.length
    · rw [decide_eq_true (by omega : (60 : Int) < (l.length : Int))]; rfl
    · rw [decide_eq_false (by omega : ¬ (60 : Int) < (l.length : Int)), cond_false, m43_eq hK, Option.bind_some, Option.bind_some]
      by_cases hM : May g
      · rw [if_pos hM]
        have h128 := hM.arena.1
        show m9_l1 K g l K [] 0 = some true
        refine L.loop (σ := List S_Handle × Int) g.Arena.Slots.length (fun k s => m9_l1 K g l k s.1 s.2) (fun rec s => m9_l1b K g l (fun a b => rec (a, b)) s.1 s.2) (fun k => rfl)
          (fun i s => s.2 = (i : Int) ∧ s.1.length = i) (fun o => o = some true) ?_ ?_ K 0 ([], 0) (Nat.zero_le _) (by omega) ⟨rfl, rfl⟩
        · rintro i ⟨made, y⟩ rec hi ⟨hy, hml⟩ hrec
          simp only at hy hml hrec ⊢
          subst hy
          unfold m9_l1b
          rw [L.dec_t hi, cond_true, L.idx_nat (L.lt_get hi), L.apd_in (by omega), L.ck_succ (by omega)]
          exact hrec _ ⟨rfl, by simp [hml]⟩
        · rintro ⟨made, y⟩ rec ⟨hy, hml⟩
          simp only at hy hml ⊢
          subst hy
          unfold m9_l1b
          rw [L.dec_f (Nat.lt_irrefl _), cond_false]
          exact m9_acts hK l (by omega) hM (by omega)
      · rw [if_neg hM]; rfl
end Go.Proofs.YtobkigllalbkiaaV.M

set_option linter.unusedVariables false
namespace Go.Proofs.Ytobkigllalbkiaa.NodesNeverLaw
open Go.ChangeShapes Go.WideShapes Go.ChangeAt Go.RowKit Go.Proofs.YtobkigllalbkiaaV Go.Proofs.YtobkigllalbkiaaV.M

theorem op3 : Opn Try.prog 3 kInt := Opn.int (by kernel_rfl) (by kernel_rfl)
theorem op4 : Opn Try.prog 4 kBool := Opn.bool (by kernel_rfl) (by kernel_rfl)
theorem op96 : Opn Try.prog 96 k_Slot where
  sz := by kernel_rfl
  down := fun {H enc w fuel cs x} h => by
    have hlen := trod_len (n := 2) (by kernel_rfl) (by kernel_rfl) h
    match cs, hlen, h with
    | [v0, v1], _, h =>
      obtain ⟨n0, y0, t0⟩ := trod_field (i := 0) (T := 3) (off := 0) (sz := 1) (by kernel_rfl) h
      obtain ⟨a0, h0⟩ := op3.down t0
      have h0 : [v0] = [.int .i64 a0] := h0
      simp only [List.cons.injEq, and_true] at h0
      obtain rfl := h0
      obtain ⟨n1, y1, t1⟩ := trod_field (i := 1) (T := 4) (off := 1) (sz := 1) (by kernel_rfl) h
      obtain ⟨a1, h1⟩ := op4.down t1
      have h1 : [v1] = [.bool a1] := h1
      simp only [List.cons.injEq, and_true] at h1
      obtain rfl := h1
      exact ⟨(⟨a0, a1⟩ : S_Slot), rfl⟩
abbrev Q74 : (List S_Slot) → Prop := fun l => l.length * 16 ≤ reachBytes ∧ ∀ x ∈ l, (fun _ => True) x
theorem op74 : OpnZ Try.prog 74 (Kd.slice k_Slot) Q74 := OpnZ.slice (by kernel_rfl) (by kernel_rfl) op96.z (by show 0 < 2; omega) (by kernel_rfl)
abbrev Q76 : S_Arena → Prop := fun a => Q74 a.Slots
theorem op76 : OpnZ Try.prog 76 k_Arena Q76 where
  sz := by kernel_rfl
  down := fun {H enc w fuel cs x} h hwt => by
    have hlen := trod_len (n := 1) (by kernel_rfl) (by kernel_rfl) h
    match cs, hlen, h with
    | [v0], _, h =>
      obtain ⟨n0, y0, t0, w0⟩ := trod_fieldZ (i := 0) (T := 74) (off := 0) (sz := 1) (by kernel_rfl) h hwt
      obtain ⟨a0, h0, q0⟩ := (op74).down t0 w0
      obtain ⟨A0_0, c0_0, h0, hR0_0⟩ := h0
      have h0 : [v0] = [.slice A0_0 a0.length c0_0] := h0
      simp only [List.cons.injEq, and_true] at h0
      obtain rfl := h0
      exact ⟨(⟨a0⟩ : S_Arena), ⟨A0_0, c0_0, rfl, hR0_0⟩, q0⟩
theorem op81 : Opn Try.prog 81 k_Handle where
  sz := by kernel_rfl
  down := fun {H enc w fuel cs x} h => by
    have hlen := trod_len (n := 2) (by kernel_rfl) (by kernel_rfl) h
    match cs, hlen, h with
    | [v0, v1], _, h =>
      obtain ⟨n0, y0, t0⟩ := trod_field (i := 0) (T := 3) (off := 0) (sz := 1) (by kernel_rfl) h
      obtain ⟨a0, h0⟩ := op3.down t0
      have h0 : [v0] = [.int .i64 a0] := h0
      simp only [List.cons.injEq, and_true] at h0
      obtain rfl := h0
      obtain ⟨n1, y1, t1⟩ := trod_field (i := 1) (T := 3) (off := 1) (sz := 1) (by kernel_rfl) h
      obtain ⟨a1, h1⟩ := op3.down t1
      have h1 : [v1] = [.int .i64 a1] := h1
      simp only [List.cons.injEq, and_true] at h1
      obtain rfl := h1
      exact ⟨(⟨a0, a1⟩ : S_Handle), rfl⟩
abbrev Q87 : (List S_Handle) → Prop := fun l => l.length * 16 ≤ reachBytes ∧ ∀ x ∈ l, (fun _ => True) x
theorem op87 : OpnZ Try.prog 87 (Kd.slice k_Handle) Q87 := OpnZ.slice (by kernel_rfl) (by kernel_rfl) op81.z (by show 0 < 2; omega) (by kernel_rfl)
abbrev Q77 : (List (List S_Handle)) → Prop := fun l => l.length * 24 ≤ reachBytes ∧ ∀ x ∈ l, Q87 x
theorem op77 : OpnZ Try.prog 77 (Kd.slice (Kd.slice k_Handle)) Q77 := OpnZ.slice (by kernel_rfl) (by kernel_rfl) op87 (by show 0 < 1; omega) (by kernel_rfl)
abbrev Q79 : S_Graph → Prop := fun a => Q76 a.Arena ∧ Q77 a.Kids
theorem op79 : OpnZ Try.prog 79 k_Graph Q79 where
  sz := by kernel_rfl
  down := fun {H enc w fuel cs x} h hwt => by
    have hlen := trod_len (n := 2) (by kernel_rfl) (by kernel_rfl) h
    match cs, hlen, h with
    | [v0, v1], _, h =>
      obtain ⟨n0, y0, t0, w0⟩ := trod_fieldZ (i := 0) (T := 76) (off := 0) (sz := 1) (by kernel_rfl) h hwt
      obtain ⟨a0, h0, q0⟩ := (op76).down t0 w0
      obtain ⟨A0_0, c0_0, h0, hR0_0⟩ := h0
      have h0 : [v0] = [.slice A0_0 a0.Slots.length c0_0] := h0
      simp only [List.cons.injEq, and_true] at h0
      obtain rfl := h0
      obtain ⟨n1, y1, t1, w1⟩ := trod_fieldZ (i := 1) (T := 77) (off := 1) (sz := 1) (by kernel_rfl) h hwt
      obtain ⟨a1, h1, q1⟩ := (op77).down t1 w1
      obtain ⟨A1_0, c1_0, h1, hR1_0⟩ := h1
      have h1 : [v1] = [.slice A1_0 a1.length c1_0] := h1
      simp only [List.cons.injEq, and_true] at h1
      obtain rfl := h1
      exact ⟨(⟨a0, a1⟩ : S_Graph), ⟨A0_0, c0_0, A1_0, c1_0, rfl, hR0_0, hR1_0⟩, q0, q1⟩
theorem op5 : Opn Try.prog 5 kI_u8 := Opn.int (by kernel_rfl) (by kernel_rfl)
theorem op98 : Opn Try.prog 98 k_Act where
  sz := by kernel_rfl
  down := fun {H enc w fuel cs x} h => by
    have hlen := trod_len (n := 4) (by kernel_rfl) (by kernel_rfl) h
    match cs, hlen, h with
    | [v0, v1, v2, v3], _, h =>
      obtain ⟨n0, y0, t0⟩ := trod_field (i := 0) (T := 5) (off := 0) (sz := 1) (by kernel_rfl) h
      obtain ⟨a0, h0⟩ := op5.down t0
      have h0 : [v0] = [.int .u8 a0] := h0
      simp only [List.cons.injEq, and_true] at h0
      obtain rfl := h0
      obtain ⟨n1, y1, t1⟩ := trod_field (i := 1) (T := 3) (off := 1) (sz := 1) (by kernel_rfl) h
      obtain ⟨a1, h1⟩ := op3.down t1
      have h1 : [v1] = [.int .i64 a1] := h1
      simp only [List.cons.injEq, and_true] at h1
      obtain rfl := h1
      obtain ⟨n2, y2, t2⟩ := trod_field (i := 2) (T := 3) (off := 2) (sz := 1) (by kernel_rfl) h
      obtain ⟨a2, h2⟩ := op3.down t2
      have h2 : [v2] = [.int .i64 a2] := h2
      simp only [List.cons.injEq, and_true] at h2
      obtain rfl := h2
      obtain ⟨n3, y3, t3⟩ := trod_field (i := 3) (T := 3) (off := 3) (sz := 1) (by kernel_rfl) h
      obtain ⟨a3, h3⟩ := op3.down t3
      have h3 : [v3] = [.int .i64 a3] := h3
      simp only [List.cons.injEq, and_true] at h3
      obtain rfl := h3
      exact ⟨(⟨a0, a1, a2, a3⟩ : S_Act), rfl⟩
abbrev Q93 : (List S_Act) → Prop := fun l => l.length * 32 ≤ reachBytes ∧ ∀ x ∈ l, (fun _ => True) x
theorem op93 : OpnZ Try.prog 93 (Kd.slice k_Act) Q93 := OpnZ.slice (by kernel_rfl) (by kernel_rfl) op98.z (by show 0 < 4; omega) (by kernel_rfl)
theorem own : ownKnob Try.prog.godebug = none := by kernel_rfl
theorem laidOut : laidOutB Try.prog = true := by kernel_rfl
theorem said (a0 : S_Graph) (a1 : (List S_Act)) (z0 : Q79 a0) (z1 : Q93 a1) : m9 1000 a0 a1 = some true := (m9_true (by decide) (by kernel_rfl) a0 a1 (fun l hl => by have := (z0.2.2 l hl).1; simp only [reachBytes] at this; omega))
theorem readable : ∀ t ∈ Try.f9.params.toList, Try.prog.readableRec t = true ∧ t < Try.prog.types.size := by
  rw [Try.params9]
  intro t ht
  simp only [List.mem_cons, List.not_mem_nil, or_false] at ht
  rcases ht with rfl | rfl <;> exact ⟨by kernel_rfl, of_decide_eq_true (by kernel_rfl)⟩
set_option maxRecDepth 100000 in
theorem lifted (os : Os) (started : os.Started) (H : Type) (enc : TypeId × Value → H) :
    ReturnsInHanded {} Try.checked os 9 .any (Rows.nodesNeverSpec.pre6 enc Try.prog Try.f9 Rows.nodesNeverRow.domain false) (Rows.nodesNeverSpec.post enc Try.prog Try.f9 false true false false) := by
  refine returnsInHanded_of_change_sized (C := Try.checked) own started (by kernel_rfl) Try.func9
    (ChangeSpec.witness6 (enc := enc) (C := Try.checked) false ⟨#[], #[.agg #[.slice none 0 0, .slice none 0 0], .slice none 0 0], []⟩ 8 (by kernel_rfl) (by kernel_rfl) (by kernel_rfl) (by kernel_rfl)) ?_
  intro W base args ds gs before hval0 hW hcnd hsz _
  have hW' := hW
  obtain ⟨p, q, hA0, hV, rfl, hfz, hnd⟩ := hW
  have hA : DataW.TrodAll enc Try.prog W 0 (fun _ => true) true Try.f9.params.toList args.toList ds p := hA0
  have hlt : ∀ x ∈ p, x.block < W.heap.size := fun x hx => hW'.lt x (List.mem_append.2 (.inl hx))
  rw [Try.params9] at hA hsz
  obtain ⟨v0, vs0, d0, ds0, p0, q0, e0, rfl, rfl, h0, hA⟩ := trodAll_cons hA
  obtain ⟨v1, vs1, d1, ds1, p1, q1, e1, rfl, rfl, h1, hA⟩ := trodAll_cons hA
  obtain ⟨rfl, rfl, rfl⟩ := trodAll_nil hA
  subst e1
  obtain rfl : args = #[v0, v1] := by cases args; simp_all
  obtain ⟨cs0, a0, rfl, k0, z0⟩ := arg_aggZ op79 (by kernel_rfl) (hval0 0 79 v0 rfl rfl) h0 (weight_each hsz 0 rfl rfl)
  obtain ⟨A0_0, c0_0, A0_1, c0_1, k0, hR0_0, hR0_1⟩ := k0
  have k0 : cs0 = [.slice A0_0 a0.Arena.Slots.length c0_0, .slice A0_1 a0.Kids.length c0_1] := k0
  subst k0
  obtain ⟨A1_0, c1_0, a1, rfl, hR1_0, z1⟩ := arg_sliceZ (e := 98) (by kernel_rfl) op93 (hval0 1 93 v1 rfl rfl) h1 (weight_each hsz 1 rfl rfl)
  obtain ⟨rfl, rfl⟩ := trodVars_none hV
  simp only [List.append_nil] at hW' hlt
  refine (c9 okT 1000 W a0 A0_0 c0_0 A0_1 c0_1 a1 A1_0 c1_0 hR0_0 hR0_1 hR1_0 true (said a0 a1 z0 z1)).mono fun e W' ⟨he, hg⟩ => ?_
  subst he
  exact ⟨_, rfl, post_below (pv := []) hW' (fun _ _ _ => (trodAll_cons_mk (shut_bool Try.underlying4 _) trodAll_mk0)) (fun sp hsp => trodAll_stays laidOut hg.base readable hA0 (by simpa using hlt) (fun x hx => hsp x (by simpa using hx))) (fun _ _ => rfl) (by simp) hg.base
    (ok_one (by kernel_rfl) rfl (okWide_bool_mk Try.underlying4 _))⟩
theorem over : Rows.nodesNeverRow.holds Try.pinned (OpenSpec.ofChange Rows.nodesNeverSpec) :=
  OpenClaim.holds_of_wide 9 Try.f9 rfl rfl rfl rfl rfl rfl rfl ⟨rfl, rfl, rfl, rfl, rfl⟩ rfl rfl rfl rfl rfl (by kernel_rfl) Try.func9 (by kernel_rfl)
    (of_decide_eq_true (by kernel_rfl)) (by unfold Func.isWrapper; first | (rw [if_pos (by decide +kernel)]; kernel_rfl) | (rw [if_neg (by decide +kernel)]; exact ⟨rfl, rfl⟩))
    (fun os started H enc _ => lifted os started H enc)
end Go.Proofs.Ytobkigllalbkiaa.NodesNeverLaw
namespace Go.Proofs.Ytobkigllalbkiaa
/-- The statement. -/
theorem nodesNever_proved : Rows.NodesNeverSaid := NodesNeverLaw.over
#print axioms nodesNever_proved
end Go.Proofs.Ytobkigllalbkiaa
