/- Proved: NodesTurn returns true, whatever its arguments and the memory that it is called in, and each argument reads behind the call as it did before. No condition. -/
import Derived.Test.YtobkigllalbkiaaNodesTurnZF
/- A plain Lean function that answers as the Go function does (none: not told), and the proof that a call answers so. Written by program. -/
set_option linter.unusedVariables false
namespace Go.Proofs.YtobkigllalbkiaaV.M
open Go.RowKit Go.Proofs.YtobkigllalbkiaaV
/-- diorama/dioramalaw06.NodesTurn -/
def m10 (K : Nat) (a0 : S_Graph) (a1 : S_Graph) (a2 : S_Handle) (a3 : S_Handle) (a4 : Int) : Option (Bool) :=
 ((m44 K a0).bind fun v26 => ((bif v26 then some true else ((m44 K a1).bind fun v30 => some v30)).bind fun b28 => (bif b28 then some true else ((m48 K a0).bind fun v35 => ((m45 K v35).bind fun v51 => ((m49 K a0).bind fun v66 => ((m40 K v35 a2).bind fun v81 => ((m50 K a0 a2).bind fun v93 => ((m38 K v35 a2 a3 a4).bind fun v105 => ((m51 K a0 a2 a3 a4).bind fun v117 => ((m41 K v35 a2 a4).bind fun v129 => ((m52 K a0 a2 a4).bind fun v141 => ((m53 K v35).bind fun v153 => ((m54 K v51.1 v66.1).bind fun v165 => ((bif v165 then some ((v51.2.1.Slot == v66.2.1.Slot) && (v51.2.1.Gen == v66.2.1.Gen)) else some false).bind fun b167 => ((bif b167 then some (v51.2.2 == v66.2.2) else some false).bind fun b170 => ((bif b170 then ((m54 K v81.1 v93.1).bind fun v175 => some v175) else some false).bind fun b173 => ((bif b173 then some (v81.2 == v93.2) else some false).bind fun b179 => ((bif b179 then ((m54 K v105.1 v117.1).bind fun v184 => some v184) else some false).bind fun b182 => ((bif b182 then some (v105.2 == v117.2) else some false).bind fun b188 => ((bif b188 then ((m54 K v129.1 v141.1).bind fun v193 => some v193) else some false).bind fun b191 => ((bif b191 then some (v129.2 == v141.2) else some false).bind fun b197 => ((m43 K v35).bind fun v202 => ((m55 K a0).bind fun v205 => ((bif (v202 == v205) then ((m54 K v153 a0).bind fun v209 => some v209) else some false).bind fun b207 => ((bif b207 then ((m56 K a0 a1).bind fun v215 => ((m54 K a0 a1).bind fun v218 => some (v215 == v218))) else some false).bind fun b213 => ((bif b213 then ((m56 K v35 a0).bind fun v224 => some v224) else some false).bind fun b222 => ((bif b197 then some b222 else some false).bind fun b233 => ((bif b233 then ((m54 K v35 a0).bind fun v238 => some v238) else some false).bind fun b236 => some b236)))))))))))))))))))))))))))))
set_option maxRecDepth 100000 in
set_option maxHeartbeats 4000000 in
theorem c10 (ok : Okp) (K : Nat) (w : World) (a0 : S_Graph) (A1 : Option Addr) (cp2 : Nat) (A5 : Option Addr) (cp6 : Nat) (a1 : S_Graph) (A9 : Option Addr) (cp10 : Nat) (A13 : Option Addr) (cp14 : Nat) (a2 : S_Handle) (a3 : S_Handle) (a4 : Int) (hR3 : Rd k_Slot w ok A1 cp2 a0.Arena.Slots) (hR7 : Rd (Kd.slice k_Handle) w ok A5 cp6 a0.Kids) (hR11 : Rd k_Slot w ok A9 cp10 a1.Arena.Slots) (hR15 : Rd (Kd.slice k_Handle) w ok A13 cp14 a1.Kids) (res : Bool) (hm : m10 K a0 a1 a2 a3 a4 = some res) :
  Calls Try.prog 10 #[.agg #[.slice A1 a0.Arena.Slots.length cp2, .slice A5 a0.Kids.length cp6], .agg #[.slice A9 a1.Arena.Slots.length cp10, .slice A13 a1.Kids.length cp14], .agg #[.int .i64 a2.Slot, .int .i64 a2.Gen], .agg #[.int .i64 a3.Slot, .int .i64 a3.Gen], .int .i64 a4] w (fun e w' => e = .returned (tup [.bool res]) ∧ Sep ok w w' [] []) := by
 refine calls_W (args := [.agg #[.slice A1 a0.Arena.Slots.length cp2, .slice A5 a0.Kids.length cp6], .agg #[.slice A9 a1.Arena.Slots.length cp10, .slice A13 a1.Kids.length cp14], .agg #[.int .i64 a2.Slot, .int .i64 a2.Gen], .agg #[.int .i64 a3.Slot, .int .i64 a3.Gen], .int .i64 a4]) Try.func10 rfl Try.ntmps10 Try.results10 rfl fun r hr => ?_
 obtain ⟨r1, rfl⟩ := regen (r := r) [(0, .agg #[.slice A1 a0.Arena.Slots.length cp2, .slice A5 a0.Kids.length cp6]), (1, .agg #[.slice A9 a1.Arena.Slots.length cp10, .slice A13 a1.Kids.length cp14]), (2, .agg #[.int .i64 a2.Slot, .int .i64 a2.Gen]), (3, .agg #[.int .i64 a3.Slot, .int .i64 a3.Gen]), (4, .int .i64 a4)] ⟨hr 0 _ rfl, hr 1 _ rfl, hr 2 _ rfl, hr 3 _ rfl, hr 4 _ rfl, trivial⟩
 have H : Sep ok w w [] [RDS A1 cp2 a0, RDK A5 cp6 a0, RDS A9 cp10 a1, RDK A13 cp14 a1] := Sep.arg (Sep.arg (Sep.arg (Sep.arg (Sep.start ok w) (re := RE.rd k_Slot A1 cp2 a0.Arena.Slots) rfl rfl hR3) (re := RE.rd (Kd.slice k_Handle) A5 cp6 a0.Kids) rfl rfl hR7) (re := RE.rd k_Slot A9 cp10 a1.Arena.Slots) rfl rfl hR11) (re := RE.rd (Kd.slice k_Handle) A13 cp14 a1.Kids) rfl rfl hR15
 unfold m10 at hm
 refine W_seq ?_
 refine W_region ?_
 refine RL_cons (O_box (by exact wn0 rfl) (by rfl) (by rfl) (by rfl) H (fun w18 b17 (H : Sep ok w w18 [GRB b17 A1 cp2 A5 cp6 a0] [RDS A1 cp2 a0, RDK A5 cp6 a0, RDS A9 cp10 a1, RDK A13 cp14 a1]) => ?_))
 refine RL_cons (O_box (by exact wn0 rfl) (by rfl) (by rfl) (by rfl) H (fun w20 b19 (H : Sep ok w w20 [GRB b17 A1 cp2 A5 cp6 a0, GRB b19 A9 cp10 A13 cp14 a1] [RDS A1 cp2 a0, RDK A5 cp6 a0, RDS A9 cp10 a1, RDK A13 cp14 a1]) => ?_))
 refine RL_cons (O_box (by exact wn0 rfl) (by rfl) (by rfl) (by rfl) H (fun w22 b21 (H : Sep ok w w22 [GRB b17 A1 cp2 A5 cp6 a0, GRB b19 A9 cp10 A13 cp14 a1, HNB b21 a2] [RDS A1 cp2 a0, RDK A5 cp6 a0, RDS A9 cp10 a1, RDK A13 cp14 a1]) => ?_))
 refine RL_cons (O_box (by exact wn0 rfl) (by rfl) (by rfl) (by rfl) H (fun w24 b23 (H : Sep ok w w24 [GRB b17 A1 cp2 A5 cp6 a0, GRB b19 A9 cp10 A13 cp14 a1, HNB b21 a2, HNB b23 a3] [RDS A1 cp2 a0, RDK A5 cp6 a0, RDS A9 cp10 a1, RDK A13 cp14 a1]) => ?_))
 refine RL_p (x_assign (v := .bool false) (by rfl)) ?_
 refine RL_nil ?_
 refine W_seq ?_
 refine W_seq ?_
 refine W_region ?_
 refine RL_p (x_loadA (j := 0) (vs := [.slice A1 a0.Arena.Slots.length cp2, .slice A5 a0.Kids.length cp6]) ag79 (by rfl) (H.cells (i := 0) (by rfl)) (by rfl) (by rfl)) ?_
 obtain ⟨v26, hv25, hm⟩ := bind_some hm
 refine RL_cons (O_call (by exact wn0 rfl) (by rfl) (by rfl) (x_callL (by rfl) (args := [.agg #[.slice A1 a0.Arena.Slots.length cp2, .slice A5 a0.Kids.length cp6]]) (by rfl) (cf44 _ _)) (c44 okT K w24 a0 A1 cp2 A5 cp6 (H.rd (i := 0) (by rfl)).any (H.rd (i := 1) (by rfl)).any v26 hv25) ?_)
 rintro e w27 ⟨rfl, H2⟩
 have H : Sep ok w w27 [GRB b17 A1 cp2 A5 cp6 a0, GRB b19 A9 cp10 A13 cp14 a1, HNB b21 a2, HNB b23 a3] [RDS A1 cp2 a0, RDK A5 cp6 a0, RDS A9 cp10 a1, RDK A13 cp14 a1] := H.below H2.base
 clear H2
 refine ⟨_, rfl, ?_⟩
 show RL _ _ _ _ _ _ _
 refine RL_p (x_move (v := .bool v26) (by rfl)) ?_
 obtain ⟨b28, hmS, hm⟩ := bind_some hm
 refine RL_cut 3 (fun r' w' => Agr [(38, .bool b28), (4, .int .i64 a4), (5, .pointer (some ⟨b17, 0, none⟩)), (6, .pointer (some ⟨b19, 0, none⟩)), (7, .pointer (some ⟨b21, 0, none⟩)), (8, .pointer (some ⟨b23, 0, none⟩))] r' ∧ Sep ok w w' [GRB b17 A1 cp2 A5 cp6 a0, GRB b19 A9 cp10 A13 cp14 a1, HNB b21 a2, HNB b23 a3] [RDS A1 cp2 a0, RDK A5 cp6 a0, RDS A9 cp10 a1, RDK A13 cp14 a1]) ?_ ?_
 ·cases hbS : v26
  ·have hm := cond_f hbS hmS
   refine RL_pure (by exact wn1 rfl rfl rfl rfl) (by rfl) (by rfl) (x_loadA (j := 0) (vs := [.slice A9 a1.Arena.Slots.length cp10, .slice A13 a1.Kids.length cp14]) ag79 (by rfl) (H.cells (i := 1) (by rfl)) (by rfl) (by rfl)) ?_
   obtain ⟨v30, hv29, hm⟩ := bind_some hm
   refine RL_cons (O_call (by exact wn1 rfl rfl rfl rfl) (by rfl) (by rfl) (x_callL (by rfl) (args := [.agg #[.slice A9 a1.Arena.Slots.length cp10, .slice A13 a1.Kids.length cp14]]) (by rfl) (cf44 _ _)) (c44 okT K w27 a1 A9 cp10 A13 cp14 (H.rd (i := 2) (by rfl)).any (H.rd (i := 3) (by rfl)).any v30 hv29) ?_)
   rintro e w31 ⟨rfl, H2⟩
   have H : Sep ok w w31 [GRB b17 A1 cp2 A5 cp6 a0, GRB b19 A9 cp10 A13 cp14 a1, HNB b21 a2, HNB b23 a3] [RDS A1 cp2 a0, RDK A5 cp6 a0, RDS A9 cp10 a1, RDK A13 cp14 a1] := H.below H2.base
   clear H2
   refine ⟨_, rfl, ?_⟩
   show RL _ _ _ _ _ _ _
   refine RL_p (x_pick_f (v := .bool v30) (by rfl) (by rfl)) ?_
   refine RL_nil ?_
   exact ⟨⟨congrArg Value.bool (Option.some.inj hm), rfl, rfl, rfl, rfl, rfl, trivial⟩, H⟩
  ·have hm := cond_t hbS hmS
   refine RL_cons (OpR_off (by exact wn2 rfl rfl rfl rfl) (by rfl) (by rfl) ?_)
   refine RL_cons (OpR_off (by exact wn2 rfl rfl rfl rfl) (by rfl) (by rfl) ?_)
   refine RL_p (x_pick_t (v := .bool true) (by rfl) (by rfl)) ?_
   refine RL_nil ?_
   exact ⟨⟨congrArg Value.bool (Option.some.inj hm), rfl, rfl, rfl, rfl, rfl, trivial⟩, H⟩
 ·rintro r' w' ⟨hA, H⟩
  obtain ⟨r32, rfl⟩ := regen _ hA; clear hA
  obtain ⟨w33, rfl⟩ : ∃ W : World, W = w' := ⟨_, rfl⟩
  show RL _ _ _ _ _ _ _
  refine RL_nil ?_
  refine W_cond (by rfl) (fun hb => ?_) (fun hb => ?_)
  ·have hm := cond_t hb hm
   refine W_seq ?_
   refine W_region ?_
   refine RL_p (x_assign (v := .bool true) (by rfl)) ?_
   refine RL_nil ?_
   refine W_ret ?_
   obtain rfl := Option.some.inj hm
   exact ⟨[.bool true], (.tmp (by rfl) rfl), rfl, H.none_⟩
  ·have hm := cond_f hb hm
   refine W_skip ?_
   refine W_seq ?_
   refine W_region ?_
   refine RL_p (x_loadA (j := 0) (vs := [.slice A1 a0.Arena.Slots.length cp2, .slice A5 a0.Kids.length cp6]) ag79 (by rfl) (H.cells (i := 0) (by rfl)) (by rfl) (by rfl)) ?_
   obtain ⟨v35, hv34, hm⟩ := bind_some hm
   refine RL_cons (O_call (by exact wn0 rfl) (by rfl) (by rfl) (x_callL (by rfl) (args := [.agg #[.slice A1 a0.Arena.Slots.length cp2, .slice A5 a0.Kids.length cp6]]) (by rfl) (cf48 _ _)) (c48 (okS ok w [GRB b17 A1 cp2 A5 cp6 a0, GRB b19 A9 cp10 A13 cp14 a1, HNB b21 a2, HNB b23 a3]) K w33 a0 A1 cp2 A5 cp6 (H.rd (i := 0) (by rfl)) (H.rd (i := 1) (by rfl)) v35 hv34) ?_)
   rintro e w36 ⟨A37, cp38, cs39, A42, cp43, cs44, rfl, H2⟩
   have H : Sep ok w w36 [GRB b17 A1 cp2 A5 cp6 a0, GRB b19 A9 cp10 A13 cp14 a1, HNB b21 a2, HNB b23 a3, .row (.slice A37 v35.Arena.Slots.length cp38) 96 k_Slot.sz v35.Arena.Slots.length cs39, .row (.slice A42 v35.Kids.length cp43) 87 (Kd.slice k_Handle).sz v35.Kids.length cs44] [RDS A1 cp2 a0, RDK A5 cp6 a0, RDS A9 cp10 a1, RDK A13 cp14 a1, RE.chunks k_Slot cs39 v35.Arena.Slots, RE.chunks (Kd.slice k_Handle) cs44 v35.Kids] := H.call H2
   clear H2
   refine ⟨_, rfl, ?_⟩
   show RL _ _ _ _ _ _ _
   refine RL_cons (O_alloc (by exact wn0 rfl) (by rfl) ze79 (by rfl) H (fun w48 b47 (H : Sep ok w w48 [GRB b17 A1 cp2 A5 cp6 a0, GRB b19 A9 cp10 A13 cp14 a1, HNB b21 a2, HNB b23 a3, .row (.slice A37 v35.Arena.Slots.length cp38) 96 k_Slot.sz v35.Arena.Slots.length cs39, .row (.slice A42 v35.Kids.length cp43) 87 (Kd.slice k_Handle).sz v35.Kids.length cs44, .blk b47 79 [.slice none 0 0, .slice none 0 0]] [RDS A1 cp2 a0, RDK A5 cp6 a0, RDS A9 cp10 a1, RDK A13 cp14 a1, RE.chunks k_Slot cs39 v35.Arena.Slots, RE.chunks (Kd.slice k_Handle) cs44 v35.Kids]) => ?_))
   refine RL_cons (O_store (i := 6) (off := 0) (by exact wn0 rfl) (by rfl) (by rfl) H (by rfl) (vs := [.slice A37 v35.Arena.Slots.length cp38, .slice A42 v35.Kids.length cp43]) (by rfl) sz79 (by rfl) (by rfl) (by rfl) (fun w49 (H : Sep ok w w49 [GRB b17 A1 cp2 A5 cp6 a0, GRB b19 A9 cp10 A13 cp14 a1, HNB b21 a2, HNB b23 a3, .row (.slice A37 v35.Arena.Slots.length cp38) 96 k_Slot.sz v35.Arena.Slots.length cs39, .row (.slice A42 v35.Kids.length cp43) 87 (Kd.slice k_Handle).sz v35.Kids.length cs44, GRB b47 A37 cp38 A42 cp43 v35] [RDS A1 cp2 a0, RDK A5 cp6 a0, RDS A9 cp10 a1, RDK A13 cp14 a1, RE.chunks k_Slot cs39 v35.Arena.Slots, RE.chunks (Kd.slice k_Handle) cs44 v35.Kids]) => ?_))
   refine RL_nil ?_
   refine W_seq ?_
   refine W_region ?_
   refine RL_p (x_loadA (j := 0) (vs := [.slice A37 v35.Arena.Slots.length cp38, .slice A42 v35.Kids.length cp43]) ag79 (by rfl) (H.cells (i := 6) (by rfl)) (by rfl) (by rfl)) ?_
   obtain ⟨v51, hv50, hm⟩ := bind_some hm
   have H : Sep ok w w49 [GRB b17 A1 cp2 A5 cp6 a0, GRB b19 A9 cp10 A13 cp14 a1, HNB b21 a2, HNB b23 a3, .hole, .row (.slice A42 v35.Kids.length cp43) 87 (Kd.slice k_Handle).sz v35.Kids.length cs44, GRB b47 A37 cp38 A42 cp43 v35] [RDS A1 cp2 a0, RDK A5 cp6 a0, RDS A9 cp10 a1, RDK A13 cp14 a1, RDS A37 cp38 v35, RE.chunks (Kd.slice k_Handle) cs44 v35.Kids] := H.frozen (i := 4) (j := 4) (by rfl) (by rfl)
   have H : Sep ok w w49 [GRB b17 A1 cp2 A5 cp6 a0, GRB b19 A9 cp10 A13 cp14 a1, HNB b21 a2, HNB b23 a3, .hole, .hole, GRB b47 A37 cp38 A42 cp43 v35] [RDS A1 cp2 a0, RDK A5 cp6 a0, RDS A9 cp10 a1, RDK A13 cp14 a1, RDS A37 cp38 v35, RDK A42 cp43 v35] := H.frozen (i := 5) (j := 5) (by rfl) (by rfl)
   have H : Sep ok w w49 [GRB b17 A1 cp2 A5 cp6 a0, GRB b19 A9 cp10 A13 cp14 a1, HNB b21 a2, HNB b23 a3, .hole, .hole, GRB b47 A37 cp38 A42 cp43 v35] [RDS A1 cp2 a0, RDK A5 cp6 a0, RDS A9 cp10 a1, RDK A13 cp14 a1, RDS A37 cp38 v35, RDK A42 cp43 v35, LTS w49 A1 cp2 a0, LTK w49 A5 cp6 a0, LTS w49 A9 cp10 a1, LTK w49 A13 cp14 a1, LTS w49 A37 cp38 v35, LTK w49 A42 cp43 v35] := ((((((H.alsoLt (i := 0) (by rfl)).alsoLt (i := 1) (by rfl)).alsoLt (i := 2) (by rfl)).alsoLt (i := 3) (by rfl)).alsoLt (i := 4) (by rfl)).alsoLt (i := 5) (by rfl))
   have hm0 : w.heap.size ≤ w49.heap.size := H.le
   have H : Sep ok w w49 [GRB b17 A1 cp2 A5 cp6 a0, GRB b19 A9 cp10 A13 cp14 a1, HNB b21 a2, HNB b23 a3, .hole, .hole, GRB b47 A37 cp38 A42 cp43 v35] [RDS A1 cp2 a0, RDK A5 cp6 a0, RDS A9 cp10 a1, RDK A13 cp14 a1, RDS A37 cp38 v35, RDK A42 cp43 v35, LTS w49 A1 cp2 a0, LTK w49 A5 cp6 a0, LTS w49 A9 cp10 a1, LTK w49 A13 cp14 a1, LTS w49 A37 cp38 v35, LTK w49 A42 cp43 v35, RE.sz w49.heap.size] := H.also (re := RE.sz w49.heap.size) (Nat.le_refl _)
   have hmi : w49.heap.size ≤ w49.heap.size := Nat.le_refl _
   refine RL_cons (O_call (by exact wn0 rfl) (by rfl) (by rfl) (x_callL (by rfl) (args := [.agg #[.slice A37 v35.Arena.Slots.length cp38, .slice A42 v35.Kids.length cp43]]) (by rfl) (cf45 _ _)) (c45n (okS ok w [GRB b17 A1 cp2 A5 cp6 a0, GRB b19 A9 cp10 A13 cp14 a1, HNB b21 a2, HNB b23 a3, .hole, .hole, GRB b47 A37 cp38 A42 cp43 v35]) (fun _ h => h) K w49 v35 A37 cp38 A42 cp43 (H.rd (i := 4) (by rfl)) (H.rd (i := 5) (by rfl)) v51 hv50) ?_)
   rintro e w52 ⟨A53, cp54, A56, cp57, rfl, H2⟩
   have H2 := H2.frLe (i := 0) (by rfl) hmi
   have H2 := H2.frLe (i := 1) (by rfl) hmi
   have H : Sep ok w w52 [GRB b17 A1 cp2 A5 cp6 a0, GRB b19 A9 cp10 A13 cp14 a1, HNB b21 a2, HNB b23 a3, .hole, .hole, GRB b47 A37 cp38 A42 cp43 v35] [RDS A1 cp2 a0, RDK A5 cp6 a0, RDS A9 cp10 a1, RDK A13 cp14 a1, RDS A37 cp38 v35, RDK A42 cp43 v35, LTS w49 A1 cp2 a0, LTK w49 A5 cp6 a0, LTS w49 A9 cp10 a1, LTK w49 A13 cp14 a1, LTS w49 A37 cp38 v35, LTK w49 A42 cp43 v35, RE.sz w49.heap.size, FRS w49 A53 cp54 v51.1, FRK w49 A56 cp57 v51.1] := H.call H2
   clear H2
   have H : Sep ok w w52 [GRB b17 A1 cp2 A5 cp6 a0, GRB b19 A9 cp10 A13 cp14 a1, HNB b21 a2, HNB b23 a3, .hole, .hole, GRB b47 A37 cp38 A42 cp43 v35] [RDS A1 cp2 a0, RDK A5 cp6 a0, RDS A9 cp10 a1, RDK A13 cp14 a1, RDS A37 cp38 v35, RDK A42 cp43 v35, LTS w49 A1 cp2 a0, LTK w49 A5 cp6 a0, LTS w49 A9 cp10 a1, LTK w49 A13 cp14 a1, LTS w49 A37 cp38 v35, LTK w49 A42 cp43 v35, RE.sz w49.heap.size, FRS w49 A53 cp54 v51.1, FRK w49 A56 cp57 v51.1, RDS A53 cp54 v51.1, RDK A56 cp57 v51.1] := ((H.alsoRd (i := 13) (by rfl)).alsoRd (i := 14) (by rfl))
   refine ⟨_, rfl, ?_⟩
   show RL _ _ _ _ _ _ _
   refine RL_p (x_move (v := tup [.agg #[.slice A53 v51.1.Arena.Slots.length cp54, .slice A56 v51.1.Kids.length cp57], .agg #[.int .i64 v51.2.1.Slot, .int .i64 v51.2.1.Gen], .int .i64 v51.2.2]) (by rfl)) ?_
   refine RL_p (x_extract (v := .agg #[.slice A53 v51.1.Arena.Slots.length cp54, .slice A56 v51.1.Kids.length cp57]) (by rfl) (by rfl)) ?_
   refine RL_p (x_extract (v := .agg #[.int .i64 v51.2.1.Slot, .int .i64 v51.2.1.Gen]) (by rfl) (by rfl)) ?_
   refine RL_p (x_extract (v := .int .i64 v51.2.2) (by rfl) (by rfl)) ?_
   refine RL_cons (O_alloc (by exact wn0 rfl) (by rfl) ze79 (by rfl) H (fun w60 b59 (H : Sep ok w w60 [GRB b17 A1 cp2 A5 cp6 a0, GRB b19 A9 cp10 A13 cp14 a1, HNB b21 a2, HNB b23 a3, .hole, .hole, GRB b47 A37 cp38 A42 cp43 v35, .blk b59 79 [.slice none 0 0, .slice none 0 0]] [RDS A1 cp2 a0, RDK A5 cp6 a0, RDS A9 cp10 a1, RDK A13 cp14 a1, RDS A37 cp38 v35, RDK A42 cp43 v35, LTS w49 A1 cp2 a0, LTK w49 A5 cp6 a0, LTS w49 A9 cp10 a1, LTK w49 A13 cp14 a1, LTS w49 A37 cp38 v35, LTK w49 A42 cp43 v35, RE.sz w49.heap.size, FRS w49 A53 cp54 v51.1, FRK w49 A56 cp57 v51.1, RDS A53 cp54 v51.1, RDK A56 cp57 v51.1]) => ?_))
   refine RL_cons (O_alloc (by exact wn0 rfl) (by rfl) ze81 (by rfl) H (fun w62 b61 (H : Sep ok w w62 [GRB b17 A1 cp2 A5 cp6 a0, GRB b19 A9 cp10 A13 cp14 a1, HNB b21 a2, HNB b23 a3, .hole, .hole, GRB b47 A37 cp38 A42 cp43 v35, .blk b59 79 [.slice none 0 0, .slice none 0 0], .blk b61 81 [.int .i64 0, .int .i64 0]] [RDS A1 cp2 a0, RDK A5 cp6 a0, RDS A9 cp10 a1, RDK A13 cp14 a1, RDS A37 cp38 v35, RDK A42 cp43 v35, LTS w49 A1 cp2 a0, LTK w49 A5 cp6 a0, LTS w49 A9 cp10 a1, LTK w49 A13 cp14 a1, LTS w49 A37 cp38 v35, LTK w49 A42 cp43 v35, RE.sz w49.heap.size, FRS w49 A53 cp54 v51.1, FRK w49 A56 cp57 v51.1, RDS A53 cp54 v51.1, RDK A56 cp57 v51.1]) => ?_))
   refine RL_cons (O_store (i := 7) (off := 0) (by exact wn0 rfl) (by rfl) (by rfl) H (by rfl) (vs := [.slice A53 v51.1.Arena.Slots.length cp54, .slice A56 v51.1.Kids.length cp57]) (by rfl) sz79 (by rfl) (by rfl) (by rfl) (fun w63 (H : Sep ok w w63 [GRB b17 A1 cp2 A5 cp6 a0, GRB b19 A9 cp10 A13 cp14 a1, HNB b21 a2, HNB b23 a3, .hole, .hole, GRB b47 A37 cp38 A42 cp43 v35, GRB b59 A53 cp54 A56 cp57 v51.1, .blk b61 81 [.int .i64 0, .int .i64 0]] [RDS A1 cp2 a0, RDK A5 cp6 a0, RDS A9 cp10 a1, RDK A13 cp14 a1, RDS A37 cp38 v35, RDK A42 cp43 v35, LTS w49 A1 cp2 a0, LTK w49 A5 cp6 a0, LTS w49 A9 cp10 a1, LTK w49 A13 cp14 a1, LTS w49 A37 cp38 v35, LTK w49 A42 cp43 v35, RE.sz w49.heap.size, FRS w49 A53 cp54 v51.1, FRK w49 A56 cp57 v51.1, RDS A53 cp54 v51.1, RDK A56 cp57 v51.1]) => ?_))
   refine RL_cons (O_store (i := 8) (off := 0) (by exact wn0 rfl) (by rfl) (by rfl) H (by rfl) (vs := [.int .i64 v51.2.1.Slot, .int .i64 v51.2.1.Gen]) (by rfl) sz81 (by rfl) (by rfl) (by rfl) (fun w64 (H : Sep ok w w64 [GRB b17 A1 cp2 A5 cp6 a0, GRB b19 A9 cp10 A13 cp14 a1, HNB b21 a2, HNB b23 a3, .hole, .hole, GRB b47 A37 cp38 A42 cp43 v35, GRB b59 A53 cp54 A56 cp57 v51.1, HNB b61 v51.2.1] [RDS A1 cp2 a0, RDK A5 cp6 a0, RDS A9 cp10 a1, RDK A13 cp14 a1, RDS A37 cp38 v35, RDK A42 cp43 v35, LTS w49 A1 cp2 a0, LTK w49 A5 cp6 a0, LTS w49 A9 cp10 a1, LTK w49 A13 cp14 a1, LTS w49 A37 cp38 v35, LTK w49 A42 cp43 v35, RE.sz w49.heap.size, FRS w49 A53 cp54 v51.1, FRK w49 A56 cp57 v51.1, RDS A53 cp54 v51.1, RDK A56 cp57 v51.1]) => ?_))
   refine RL_p (x_assign (v := .int .i64 v51.2.2) (by rfl)) ?_
   refine RL_nil ?_
   refine W_seq ?_
   refine W_region ?_
   refine RL_p (x_loadA (j := 0) (vs := [.slice A1 a0.Arena.Slots.length cp2, .slice A5 a0.Kids.length cp6]) ag79 (by rfl) (H.cells (i := 0) (by rfl)) (by rfl) (by rfl)) ?_
   obtain ⟨v66, hv65, hm⟩ := bind_some hm
   refine RL_cons (O_call (by exact wn0 rfl) (by rfl) (by rfl) (x_callL (by rfl) (args := [.agg #[.slice A1 a0.Arena.Slots.length cp2, .slice A5 a0.Kids.length cp6]]) (by rfl) (cf49 _ _)) (c49 (okS ok w [GRB b17 A1 cp2 A5 cp6 a0, GRB b19 A9 cp10 A13 cp14 a1, HNB b21 a2, HNB b23 a3, .hole, .hole, GRB b47 A37 cp38 A42 cp43 v35, GRB b59 A53 cp54 A56 cp57 v51.1, HNB b61 v51.2.1]) K w64 a0 A1 cp2 A5 cp6 (H.rd (i := 0) (by rfl)) (H.rd (i := 1) (by rfl)) v66 hv65) ?_)
   rintro e w67 ⟨A68, cp69, A71, cp72, rfl, H2⟩
   have H : Sep ok w w67 [GRB b17 A1 cp2 A5 cp6 a0, GRB b19 A9 cp10 A13 cp14 a1, HNB b21 a2, HNB b23 a3, .hole, .hole, GRB b47 A37 cp38 A42 cp43 v35, GRB b59 A53 cp54 A56 cp57 v51.1, HNB b61 v51.2.1] [RDS A1 cp2 a0, RDK A5 cp6 a0, RDS A9 cp10 a1, RDK A13 cp14 a1, RDS A37 cp38 v35, RDK A42 cp43 v35, LTS w49 A1 cp2 a0, LTK w49 A5 cp6 a0, LTS w49 A9 cp10 a1, LTK w49 A13 cp14 a1, LTS w49 A37 cp38 v35, LTK w49 A42 cp43 v35, RE.sz w49.heap.size, FRS w49 A53 cp54 v51.1, FRK w49 A56 cp57 v51.1, RDS A53 cp54 v51.1, RDK A56 cp57 v51.1, RDS A68 cp69 v66.1, RDK A71 cp72 v66.1] := H.call H2
   clear H2
   refine ⟨_, rfl, ?_⟩
   show RL _ _ _ _ _ _ _
   refine RL_p (x_move (v := tup [.agg #[.slice A68 v66.1.Arena.Slots.length cp69, .slice A71 v66.1.Kids.length cp72], .agg #[.int .i64 v66.2.1.Slot, .int .i64 v66.2.1.Gen], .int .i64 v66.2.2]) (by rfl)) ?_
   refine RL_p (x_extract (v := .agg #[.slice A68 v66.1.Arena.Slots.length cp69, .slice A71 v66.1.Kids.length cp72]) (by rfl) (by rfl)) ?_
   refine RL_p (x_extract (v := .agg #[.int .i64 v66.2.1.Slot, .int .i64 v66.2.1.Gen]) (by rfl) (by rfl)) ?_
   refine RL_p (x_extract (v := .int .i64 v66.2.2) (by rfl) (by rfl)) ?_
   refine RL_cons (O_alloc (by exact wn0 rfl) (by rfl) ze79 (by rfl) H (fun w75 b74 (H : Sep ok w w75 [GRB b17 A1 cp2 A5 cp6 a0, GRB b19 A9 cp10 A13 cp14 a1, HNB b21 a2, HNB b23 a3, .hole, .hole, GRB b47 A37 cp38 A42 cp43 v35, GRB b59 A53 cp54 A56 cp57 v51.1, HNB b61 v51.2.1, .blk b74 79 [.slice none 0 0, .slice none 0 0]] [RDS A1 cp2 a0, RDK A5 cp6 a0, RDS A9 cp10 a1, RDK A13 cp14 a1, RDS A37 cp38 v35, RDK A42 cp43 v35, LTS w49 A1 cp2 a0, LTK w49 A5 cp6 a0, LTS w49 A9 cp10 a1, LTK w49 A13 cp14 a1, LTS w49 A37 cp38 v35, LTK w49 A42 cp43 v35, RE.sz w49.heap.size, FRS w49 A53 cp54 v51.1, FRK w49 A56 cp57 v51.1, RDS A53 cp54 v51.1, RDK A56 cp57 v51.1, RDS A68 cp69 v66.1, RDK A71 cp72 v66.1]) => ?_))
   refine RL_cons (O_alloc (by exact wn0 rfl) (by rfl) ze81 (by rfl) H (fun w77 b76 (H : Sep ok w w77 [GRB b17 A1 cp2 A5 cp6 a0, GRB b19 A9 cp10 A13 cp14 a1, HNB b21 a2, HNB b23 a3, .hole, .hole, GRB b47 A37 cp38 A42 cp43 v35, GRB b59 A53 cp54 A56 cp57 v51.1, HNB b61 v51.2.1, .blk b74 79 [.slice none 0 0, .slice none 0 0], .blk b76 81 [.int .i64 0, .int .i64 0]] [RDS A1 cp2 a0, RDK A5 cp6 a0, RDS A9 cp10 a1, RDK A13 cp14 a1, RDS A37 cp38 v35, RDK A42 cp43 v35, LTS w49 A1 cp2 a0, LTK w49 A5 cp6 a0, LTS w49 A9 cp10 a1, LTK w49 A13 cp14 a1, LTS w49 A37 cp38 v35, LTK w49 A42 cp43 v35, RE.sz w49.heap.size, FRS w49 A53 cp54 v51.1, FRK w49 A56 cp57 v51.1, RDS A53 cp54 v51.1, RDK A56 cp57 v51.1, RDS A68 cp69 v66.1, RDK A71 cp72 v66.1]) => ?_))
   refine RL_cons (O_store (i := 9) (off := 0) (by exact wn0 rfl) (by rfl) (by rfl) H (by rfl) (vs := [.slice A68 v66.1.Arena.Slots.length cp69, .slice A71 v66.1.Kids.length cp72]) (by rfl) sz79 (by rfl) (by rfl) (by rfl) (fun w78 (H : Sep ok w w78 [GRB b17 A1 cp2 A5 cp6 a0, GRB b19 A9 cp10 A13 cp14 a1, HNB b21 a2, HNB b23 a3, .hole, .hole, GRB b47 A37 cp38 A42 cp43 v35, GRB b59 A53 cp54 A56 cp57 v51.1, HNB b61 v51.2.1, GRB b74 A68 cp69 A71 cp72 v66.1, .blk b76 81 [.int .i64 0, .int .i64 0]] [RDS A1 cp2 a0, RDK A5 cp6 a0, RDS A9 cp10 a1, RDK A13 cp14 a1, RDS A37 cp38 v35, RDK A42 cp43 v35, LTS w49 A1 cp2 a0, LTK w49 A5 cp6 a0, LTS w49 A9 cp10 a1, LTK w49 A13 cp14 a1, LTS w49 A37 cp38 v35, LTK w49 A42 cp43 v35, RE.sz w49.heap.size, FRS w49 A53 cp54 v51.1, FRK w49 A56 cp57 v51.1, RDS A53 cp54 v51.1, RDK A56 cp57 v51.1, RDS A68 cp69 v66.1, RDK A71 cp72 v66.1]) => ?_))
   refine RL_cons (O_store (i := 10) (off := 0) (by exact wn0 rfl) (by rfl) (by rfl) H (by rfl) (vs := [.int .i64 v66.2.1.Slot, .int .i64 v66.2.1.Gen]) (by rfl) sz81 (by rfl) (by rfl) (by rfl) (fun w79 (H : Sep ok w w79 [GRB b17 A1 cp2 A5 cp6 a0, GRB b19 A9 cp10 A13 cp14 a1, HNB b21 a2, HNB b23 a3, .hole, .hole, GRB b47 A37 cp38 A42 cp43 v35, GRB b59 A53 cp54 A56 cp57 v51.1, HNB b61 v51.2.1, GRB b74 A68 cp69 A71 cp72 v66.1, HNB b76 v66.2.1] [RDS A1 cp2 a0, RDK A5 cp6 a0, RDS A9 cp10 a1, RDK A13 cp14 a1, RDS A37 cp38 v35, RDK A42 cp43 v35, LTS w49 A1 cp2 a0, LTK w49 A5 cp6 a0, LTS w49 A9 cp10 a1, LTK w49 A13 cp14 a1, LTS w49 A37 cp38 v35, LTK w49 A42 cp43 v35, RE.sz w49.heap.size, FRS w49 A53 cp54 v51.1, FRK w49 A56 cp57 v51.1, RDS A53 cp54 v51.1, RDK A56 cp57 v51.1, RDS A68 cp69 v66.1, RDK A71 cp72 v66.1]) => ?_))
   refine RL_p (x_assign (v := .int .i64 v66.2.2) (by rfl)) ?_
   refine RL_nil ?_
   refine W_seq ?_
   refine W_region ?_
   refine RL_p (x_loadA (j := 0) (vs := [.slice A37 v35.Arena.Slots.length cp38, .slice A42 v35.Kids.length cp43]) ag79 (by rfl) (H.cells (i := 6) (by rfl)) (by rfl) (by rfl)) ?_
   refine RL_p (x_loadA (j := 0) (vs := [.int .i64 a2.Slot, .int .i64 a2.Gen]) ag81 (by rfl) (H.cells (i := 2) (by rfl)) (by rfl) (by rfl)) ?_
   obtain ⟨v81, hv80, hm⟩ := bind_some hm
   have hmi : w49.heap.size ≤ w79.heap.size := H.rds 12 _ (by rfl)
   refine RL_cons (O_call (by exact wn0 rfl) (by rfl) (by rfl) (x_callL (by rfl) (args := [.agg #[.slice A37 v35.Arena.Slots.length cp38, .slice A42 v35.Kids.length cp43], .agg #[.int .i64 a2.Slot, .int .i64 a2.Gen]]) (by rfl) (cf40 _ _)) (c40n (okS ok w [GRB b17 A1 cp2 A5 cp6 a0, GRB b19 A9 cp10 A13 cp14 a1, HNB b21 a2, HNB b23 a3, .hole, .hole, GRB b47 A37 cp38 A42 cp43 v35, GRB b59 A53 cp54 A56 cp57 v51.1, HNB b61 v51.2.1, GRB b74 A68 cp69 A71 cp72 v66.1, HNB b76 v66.2.1]) (fun _ h => h) K w79 v35 A37 cp38 A42 cp43 a2 (H.rd (i := 4) (by rfl)) (H.rd (i := 5) (by rfl)) v81 hv80) ?_)
   rintro e w82 ⟨A83, cp84, A86, cp87, rfl, H2⟩
   have H2 := H2.frLe (i := 0) (by rfl) hmi
   have H2 := H2.frLe (i := 1) (by rfl) hmi
   have H : Sep ok w w82 [GRB b17 A1 cp2 A5 cp6 a0, GRB b19 A9 cp10 A13 cp14 a1, HNB b21 a2, HNB b23 a3, .hole, .hole, GRB b47 A37 cp38 A42 cp43 v35, GRB b59 A53 cp54 A56 cp57 v51.1, HNB b61 v51.2.1, GRB b74 A68 cp69 A71 cp72 v66.1, HNB b76 v66.2.1] [RDS A1 cp2 a0, RDK A5 cp6 a0, RDS A9 cp10 a1, RDK A13 cp14 a1, RDS A37 cp38 v35, RDK A42 cp43 v35, LTS w49 A1 cp2 a0, LTK w49 A5 cp6 a0, LTS w49 A9 cp10 a1, LTK w49 A13 cp14 a1, LTS w49 A37 cp38 v35, LTK w49 A42 cp43 v35, RE.sz w49.heap.size, FRS w49 A53 cp54 v51.1, FRK w49 A56 cp57 v51.1, RDS A53 cp54 v51.1, RDK A56 cp57 v51.1, RDS A68 cp69 v66.1, RDK A71 cp72 v66.1, FRS w49 A83 cp84 v81.1, FRK w49 A86 cp87 v81.1] := H.call H2
   clear H2
   have H : Sep ok w w82 [GRB b17 A1 cp2 A5 cp6 a0, GRB b19 A9 cp10 A13 cp14 a1, HNB b21 a2, HNB b23 a3, .hole, .hole, GRB b47 A37 cp38 A42 cp43 v35, GRB b59 A53 cp54 A56 cp57 v51.1, HNB b61 v51.2.1, GRB b74 A68 cp69 A71 cp72 v66.1, HNB b76 v66.2.1] [RDS A1 cp2 a0, RDK A5 cp6 a0, RDS A9 cp10 a1, RDK A13 cp14 a1, RDS A37 cp38 v35, RDK A42 cp43 v35, LTS w49 A1 cp2 a0, LTK w49 A5 cp6 a0, LTS w49 A9 cp10 a1, LTK w49 A13 cp14 a1, LTS w49 A37 cp38 v35, LTK w49 A42 cp43 v35, RE.sz w49.heap.size, FRS w49 A53 cp54 v51.1, FRK w49 A56 cp57 v51.1, RDS A53 cp54 v51.1, RDK A56 cp57 v51.1, RDS A68 cp69 v66.1, RDK A71 cp72 v66.1, FRS w49 A83 cp84 v81.1, FRK w49 A86 cp87 v81.1, RDS A83 cp84 v81.1, RDK A86 cp87 v81.1] := ((H.alsoRd (i := 19) (by rfl)).alsoRd (i := 20) (by rfl))
   refine ⟨_, rfl, ?_⟩
   show RL _ _ _ _ _ _ _
   refine RL_p (x_move (v := tup [.agg #[.slice A83 v81.1.Arena.Slots.length cp84, .slice A86 v81.1.Kids.length cp87], .int .i64 v81.2]) (by rfl)) ?_
   refine RL_p (x_extract (v := .agg #[.slice A83 v81.1.Arena.Slots.length cp84, .slice A86 v81.1.Kids.length cp87]) (by rfl) (by rfl)) ?_
   refine RL_p (x_extract (v := .int .i64 v81.2) (by rfl) (by rfl)) ?_
   refine RL_cons (O_alloc (by exact wn0 rfl) (by rfl) ze79 (by rfl) H (fun w90 b89 (H : Sep ok w w90 [GRB b17 A1 cp2 A5 cp6 a0, GRB b19 A9 cp10 A13 cp14 a1, HNB b21 a2, HNB b23 a3, .hole, .hole, GRB b47 A37 cp38 A42 cp43 v35, GRB b59 A53 cp54 A56 cp57 v51.1, HNB b61 v51.2.1, GRB b74 A68 cp69 A71 cp72 v66.1, HNB b76 v66.2.1, .blk b89 79 [.slice none 0 0, .slice none 0 0]] [RDS A1 cp2 a0, RDK A5 cp6 a0, RDS A9 cp10 a1, RDK A13 cp14 a1, RDS A37 cp38 v35, RDK A42 cp43 v35, LTS w49 A1 cp2 a0, LTK w49 A5 cp6 a0, LTS w49 A9 cp10 a1, LTK w49 A13 cp14 a1, LTS w49 A37 cp38 v35, LTK w49 A42 cp43 v35, RE.sz w49.heap.size, FRS w49 A53 cp54 v51.1, FRK w49 A56 cp57 v51.1, RDS A53 cp54 v51.1, RDK A56 cp57 v51.1, RDS A68 cp69 v66.1, RDK A71 cp72 v66.1, FRS w49 A83 cp84 v81.1, FRK w49 A86 cp87 v81.1, RDS A83 cp84 v81.1, RDK A86 cp87 v81.1]) => ?_))
   refine RL_cons (O_store (i := 11) (off := 0) (by exact wn0 rfl) (by rfl) (by rfl) H (by rfl) (vs := [.slice A83 v81.1.Arena.Slots.length cp84, .slice A86 v81.1.Kids.length cp87]) (by rfl) sz79 (by rfl) (by rfl) (by rfl) (fun w91 (H : Sep ok w w91 [GRB b17 A1 cp2 A5 cp6 a0, GRB b19 A9 cp10 A13 cp14 a1, HNB b21 a2, HNB b23 a3, .hole, .hole, GRB b47 A37 cp38 A42 cp43 v35, GRB b59 A53 cp54 A56 cp57 v51.1, HNB b61 v51.2.1, GRB b74 A68 cp69 A71 cp72 v66.1, HNB b76 v66.2.1, GRB b89 A83 cp84 A86 cp87 v81.1] [RDS A1 cp2 a0, RDK A5 cp6 a0, RDS A9 cp10 a1, RDK A13 cp14 a1, RDS A37 cp38 v35, RDK A42 cp43 v35, LTS w49 A1 cp2 a0, LTK w49 A5 cp6 a0, LTS w49 A9 cp10 a1, LTK w49 A13 cp14 a1, LTS w49 A37 cp38 v35, LTK w49 A42 cp43 v35, RE.sz w49.heap.size, FRS w49 A53 cp54 v51.1, FRK w49 A56 cp57 v51.1, RDS A53 cp54 v51.1, RDK A56 cp57 v51.1, RDS A68 cp69 v66.1, RDK A71 cp72 v66.1, FRS w49 A83 cp84 v81.1, FRK w49 A86 cp87 v81.1, RDS A83 cp84 v81.1, RDK A86 cp87 v81.1]) => ?_))
   refine RL_p (x_assign (v := .int .i64 v81.2) (by rfl)) ?_
   refine RL_nil ?_
   refine W_seq ?_
   refine W_region ?_
   refine RL_p (x_loadA (j := 0) (vs := [.slice A1 a0.Arena.Slots.length cp2, .slice A5 a0.Kids.length cp6]) ag79 (by rfl) (H.cells (i := 0) (by rfl)) (by rfl) (by rfl)) ?_
   refine RL_p (x_loadA (j := 0) (vs := [.int .i64 a2.Slot, .int .i64 a2.Gen]) ag81 (by rfl) (H.cells (i := 2) (by rfl)) (by rfl) (by rfl)) ?_
   obtain ⟨v93, hv92, hm⟩ := bind_some hm
   refine RL_cons (O_call (by exact wn0 rfl) (by rfl) (by rfl) (x_callL (by rfl) (args := [.agg #[.slice A1 a0.Arena.Slots.length cp2, .slice A5 a0.Kids.length cp6], .agg #[.int .i64 a2.Slot, .int .i64 a2.Gen]]) (by rfl) (cf50 _ _)) (c50 (okS ok w [GRB b17 A1 cp2 A5 cp6 a0, GRB b19 A9 cp10 A13 cp14 a1, HNB b21 a2, HNB b23 a3, .hole, .hole, GRB b47 A37 cp38 A42 cp43 v35, GRB b59 A53 cp54 A56 cp57 v51.1, HNB b61 v51.2.1, GRB b74 A68 cp69 A71 cp72 v66.1, HNB b76 v66.2.1, GRB b89 A83 cp84 A86 cp87 v81.1]) K w91 a0 A1 cp2 A5 cp6 a2 (H.rd (i := 0) (by rfl)) (H.rd (i := 1) (by rfl)) v93 hv92) ?_)
   rintro e w94 ⟨A95, cp96, A98, cp99, rfl, H2⟩
   have H : Sep ok w w94 [GRB b17 A1 cp2 A5 cp6 a0, GRB b19 A9 cp10 A13 cp14 a1, HNB b21 a2, HNB b23 a3, .hole, .hole, GRB b47 A37 cp38 A42 cp43 v35, GRB b59 A53 cp54 A56 cp57 v51.1, HNB b61 v51.2.1, GRB b74 A68 cp69 A71 cp72 v66.1, HNB b76 v66.2.1, GRB b89 A83 cp84 A86 cp87 v81.1] [RDS A1 cp2 a0, RDK A5 cp6 a0, RDS A9 cp10 a1, RDK A13 cp14 a1, RDS A37 cp38 v35, RDK A42 cp43 v35, LTS w49 A1 cp2 a0, LTK w49 A5 cp6 a0, LTS w49 A9 cp10 a1, LTK w49 A13 cp14 a1, LTS w49 A37 cp38 v35, LTK w49 A42 cp43 v35, RE.sz w49.heap.size, FRS w49 A53 cp54 v51.1, FRK w49 A56 cp57 v51.1, RDS A53 cp54 v51.1, RDK A56 cp57 v51.1, RDS A68 cp69 v66.1, RDK A71 cp72 v66.1, FRS w49 A83 cp84 v81.1, FRK w49 A86 cp87 v81.1, RDS A83 cp84 v81.1, RDK A86 cp87 v81.1, RDS A95 cp96 v93.1, RDK A98 cp99 v93.1] := H.call H2
   clear H2
   refine ⟨_, rfl, ?_⟩
   show RL _ _ _ _ _ _ _
   refine RL_p (x_move (v := tup [.agg #[.slice A95 v93.1.Arena.Slots.length cp96, .slice A98 v93.1.Kids.length cp99], .int .i64 v93.2]) (by rfl)) ?_
   refine RL_p (x_extract (v := .agg #[.slice A95 v93.1.Arena.Slots.length cp96, .slice A98 v93.1.Kids.length cp99]) (by rfl) (by rfl)) ?_
   refine RL_p (x_extract (v := .int .i64 v93.2) (by rfl) (by rfl)) ?_
   refine RL_cons (O_alloc (by exact wn0 rfl) (by rfl) ze79 (by rfl) H (fun w102 b101 (H : Sep ok w w102 [GRB b17 A1 cp2 A5 cp6 a0, GRB b19 A9 cp10 A13 cp14 a1, HNB b21 a2, HNB b23 a3, .hole, .hole, GRB b47 A37 cp38 A42 cp43 v35, GRB b59 A53 cp54 A56 cp57 v51.1, HNB b61 v51.2.1, GRB b74 A68 cp69 A71 cp72 v66.1, HNB b76 v66.2.1, GRB b89 A83 cp84 A86 cp87 v81.1, .blk b101 79 [.slice none 0 0, .slice none 0 0]] [RDS A1 cp2 a0, RDK A5 cp6 a0, RDS A9 cp10 a1, RDK A13 cp14 a1, RDS A37 cp38 v35, RDK A42 cp43 v35, LTS w49 A1 cp2 a0, LTK w49 A5 cp6 a0, LTS w49 A9 cp10 a1, LTK w49 A13 cp14 a1, LTS w49 A37 cp38 v35, LTK w49 A42 cp43 v35, RE.sz w49.heap.size, FRS w49 A53 cp54 v51.1, FRK w49 A56 cp57 v51.1, RDS A53 cp54 v51.1, RDK A56 cp57 v51.1, RDS A68 cp69 v66.1, RDK A71 cp72 v66.1, FRS w49 A83 cp84 v81.1, FRK w49 A86 cp87 v81.1, RDS A83 cp84 v81.1, RDK A86 cp87 v81.1, RDS A95 cp96 v93.1, RDK A98 cp99 v93.1]) => ?_))
   refine RL_cons (O_store (i := 12) (off := 0) (by exact wn0 rfl) (by rfl) (by rfl) H (by rfl) (vs := [.slice A95 v93.1.Arena.Slots.length cp96, .slice A98 v93.1.Kids.length cp99]) (by rfl) sz79 (by rfl) (by rfl) (by rfl) (fun w103 (H : Sep ok w w103 [GRB b17 A1 cp2 A5 cp6 a0, GRB b19 A9 cp10 A13 cp14 a1, HNB b21 a2, HNB b23 a3, .hole, .hole, GRB b47 A37 cp38 A42 cp43 v35, GRB b59 A53 cp54 A56 cp57 v51.1, HNB b61 v51.2.1, GRB b74 A68 cp69 A71 cp72 v66.1, HNB b76 v66.2.1, GRB b89 A83 cp84 A86 cp87 v81.1, GRB b101 A95 cp96 A98 cp99 v93.1] [RDS A1 cp2 a0, RDK A5 cp6 a0, RDS A9 cp10 a1, RDK A13 cp14 a1, RDS A37 cp38 v35, RDK A42 cp43 v35, LTS w49 A1 cp2 a0, LTK w49 A5 cp6 a0, LTS w49 A9 cp10 a1, LTK w49 A13 cp14 a1, LTS w49 A37 cp38 v35, LTK w49 A42 cp43 v35, RE.sz w49.heap.size, FRS w49 A53 cp54 v51.1, FRK w49 A56 cp57 v51.1, RDS A53 cp54 v51.1, RDK A56 cp57 v51.1, RDS A68 cp69 v66.1, RDK A71 cp72 v66.1, FRS w49 A83 cp84 v81.1, FRK w49 A86 cp87 v81.1, RDS A83 cp84 v81.1, RDK A86 cp87 v81.1, RDS A95 cp96 v93.1, RDK A98 cp99 v93.1]) => ?_))
   refine RL_p (x_assign (v := .int .i64 v93.2) (by rfl)) ?_
   refine RL_nil ?_
   refine W_seq ?_
   refine W_region ?_
   refine RL_p (x_loadA (j := 0) (vs := [.slice A37 v35.Arena.Slots.length cp38, .slice A42 v35.Kids.length cp43]) ag79 (by rfl) (H.cells (i := 6) (by rfl)) (by rfl) (by rfl)) ?_
   refine RL_p (x_loadA (j := 0) (vs := [.int .i64 a2.Slot, .int .i64 a2.Gen]) ag81 (by rfl) (H.cells (i := 2) (by rfl)) (by rfl) (by rfl)) ?_
   refine RL_p (x_loadA (j := 0) (vs := [.int .i64 a3.Slot, .int .i64 a3.Gen]) ag81 (by rfl) (H.cells (i := 3) (by rfl)) (by rfl) (by rfl)) ?_
   refine RL_p (x_move (v := .int .i64 a4) (by rfl)) ?_
   obtain ⟨v105, hv104, hm⟩ := bind_some hm
   have hmi : w49.heap.size ≤ w103.heap.size := H.rds 12 _ (by rfl)
   refine RL_cons (O_call (by exact wn0 rfl) (by rfl) (by rfl) (x_callL (by rfl) (args := [.agg #[.slice A37 v35.Arena.Slots.length cp38, .slice A42 v35.Kids.length cp43], .agg #[.int .i64 a2.Slot, .int .i64 a2.Gen], .agg #[.int .i64 a3.Slot, .int .i64 a3.Gen], .int .i64 a4]) (by rfl) (cf38 _ _)) (c38n (okS ok w [GRB b17 A1 cp2 A5 cp6 a0, GRB b19 A9 cp10 A13 cp14 a1, HNB b21 a2, HNB b23 a3, .hole, .hole, GRB b47 A37 cp38 A42 cp43 v35, GRB b59 A53 cp54 A56 cp57 v51.1, HNB b61 v51.2.1, GRB b74 A68 cp69 A71 cp72 v66.1, HNB b76 v66.2.1, GRB b89 A83 cp84 A86 cp87 v81.1, GRB b101 A95 cp96 A98 cp99 v93.1]) (fun _ h => h) K w103 v35 A37 cp38 A42 cp43 a2 a3 a4 (H.rd (i := 4) (by rfl)) (H.rd (i := 5) (by rfl)) v105 hv104) ?_)
   rintro e w106 ⟨A107, cp108, A110, cp111, rfl, H2⟩
   have H2 := H2.frLe (i := 0) (by rfl) hmi
   have H2 := H2.frLe (i := 1) (by rfl) hmi
   have H : Sep ok w w106 [GRB b17 A1 cp2 A5 cp6 a0, GRB b19 A9 cp10 A13 cp14 a1, HNB b21 a2, HNB b23 a3, .hole, .hole, GRB b47 A37 cp38 A42 cp43 v35, GRB b59 A53 cp54 A56 cp57 v51.1, HNB b61 v51.2.1, GRB b74 A68 cp69 A71 cp72 v66.1, HNB b76 v66.2.1, GRB b89 A83 cp84 A86 cp87 v81.1, GRB b101 A95 cp96 A98 cp99 v93.1] [RDS A1 cp2 a0, RDK A5 cp6 a0, RDS A9 cp10 a1, RDK A13 cp14 a1, RDS A37 cp38 v35, RDK A42 cp43 v35, LTS w49 A1 cp2 a0, LTK w49 A5 cp6 a0, LTS w49 A9 cp10 a1, LTK w49 A13 cp14 a1, LTS w49 A37 cp38 v35, LTK w49 A42 cp43 v35, RE.sz w49.heap.size, FRS w49 A53 cp54 v51.1, FRK w49 A56 cp57 v51.1, RDS A53 cp54 v51.1, RDK A56 cp57 v51.1, RDS A68 cp69 v66.1, RDK A71 cp72 v66.1, FRS w49 A83 cp84 v81.1, FRK w49 A86 cp87 v81.1, RDS A83 cp84 v81.1, RDK A86 cp87 v81.1, RDS A95 cp96 v93.1, RDK A98 cp99 v93.1, FRS w49 A107 cp108 v105.1, FRK w49 A110 cp111 v105.1] := H.call H2
   clear H2
   have H : Sep ok w w106 [GRB b17 A1 cp2 A5 cp6 a0, GRB b19 A9 cp10 A13 cp14 a1, HNB b21 a2, HNB b23 a3, .hole, .hole, GRB b47 A37 cp38 A42 cp43 v35, GRB b59 A53 cp54 A56 cp57 v51.1, HNB b61 v51.2.1, GRB b74 A68 cp69 A71 cp72 v66.1, HNB b76 v66.2.1, GRB b89 A83 cp84 A86 cp87 v81.1, GRB b101 A95 cp96 A98 cp99 v93.1] [RDS A1 cp2 a0, RDK A5 cp6 a0, RDS A9 cp10 a1, RDK A13 cp14 a1, RDS A37 cp38 v35, RDK A42 cp43 v35, LTS w49 A1 cp2 a0, LTK w49 A5 cp6 a0, LTS w49 A9 cp10 a1, LTK w49 A13 cp14 a1, LTS w49 A37 cp38 v35, LTK w49 A42 cp43 v35, RE.sz w49.heap.size, FRS w49 A53 cp54 v51.1, FRK w49 A56 cp57 v51.1, RDS A53 cp54 v51.1, RDK A56 cp57 v51.1, RDS A68 cp69 v66.1, RDK A71 cp72 v66.1, FRS w49 A83 cp84 v81.1, FRK w49 A86 cp87 v81.1, RDS A83 cp84 v81.1, RDK A86 cp87 v81.1, RDS A95 cp96 v93.1, RDK A98 cp99 v93.1, FRS w49 A107 cp108 v105.1, FRK w49 A110 cp111 v105.1, RDS A107 cp108 v105.1, RDK A110 cp111 v105.1] := ((H.alsoRd (i := 25) (by rfl)).alsoRd (i := 26) (by rfl))
   refine ⟨_, rfl, ?_⟩
   show RL _ _ _ _ _ _ _
   refine RL_p (x_move (v := tup [.agg #[.slice A107 v105.1.Arena.Slots.length cp108, .slice A110 v105.1.Kids.length cp111], .int .i64 v105.2]) (by rfl)) ?_
   refine RL_p (x_extract (v := .agg #[.slice A107 v105.1.Arena.Slots.length cp108, .slice A110 v105.1.Kids.length cp111]) (by rfl) (by rfl)) ?_
   refine RL_p (x_extract (v := .int .i64 v105.2) (by rfl) (by rfl)) ?_
   refine RL_cons (O_alloc (by exact wn0 rfl) (by rfl) ze79 (by rfl) H (fun w114 b113 (H : Sep ok w w114 [GRB b17 A1 cp2 A5 cp6 a0, GRB b19 A9 cp10 A13 cp14 a1, HNB b21 a2, HNB b23 a3, .hole, .hole, GRB b47 A37 cp38 A42 cp43 v35, GRB b59 A53 cp54 A56 cp57 v51.1, HNB b61 v51.2.1, GRB b74 A68 cp69 A71 cp72 v66.1, HNB b76 v66.2.1, GRB b89 A83 cp84 A86 cp87 v81.1, GRB b101 A95 cp96 A98 cp99 v93.1, .blk b113 79 [.slice none 0 0, .slice none 0 0]] [RDS A1 cp2 a0, RDK A5 cp6 a0, RDS A9 cp10 a1, RDK A13 cp14 a1, RDS A37 cp38 v35, RDK A42 cp43 v35, LTS w49 A1 cp2 a0, LTK w49 A5 cp6 a0, LTS w49 A9 cp10 a1, LTK w49 A13 cp14 a1, LTS w49 A37 cp38 v35, LTK w49 A42 cp43 v35, RE.sz w49.heap.size, FRS w49 A53 cp54 v51.1, FRK w49 A56 cp57 v51.1, RDS A53 cp54 v51.1, RDK A56 cp57 v51.1, RDS A68 cp69 v66.1, RDK A71 cp72 v66.1, FRS w49 A83 cp84 v81.1, FRK w49 A86 cp87 v81.1, RDS A83 cp84 v81.1, RDK A86 cp87 v81.1, RDS A95 cp96 v93.1, RDK A98 cp99 v93.1, FRS w49 A107 cp108 v105.1, FRK w49 A110 cp111 v105.1, RDS A107 cp108 v105.1, RDK A110 cp111 v105.1]) => ?_))
   refine RL_cons (O_store (i := 13) (off := 0) (by exact wn0 rfl) (by rfl) (by rfl) H (by rfl) (vs := [.slice A107 v105.1.Arena.Slots.length cp108, .slice A110 v105.1.Kids.length cp111]) (by rfl) sz79 (by rfl) (by rfl) (by rfl) (fun w115 (H : Sep ok w w115 [GRB b17 A1 cp2 A5 cp6 a0, GRB b19 A9 cp10 A13 cp14 a1, HNB b21 a2, HNB b23 a3, .hole, .hole, GRB b47 A37 cp38 A42 cp43 v35, GRB b59 A53 cp54 A56 cp57 v51.1, HNB b61 v51.2.1, GRB b74 A68 cp69 A71 cp72 v66.1, HNB b76 v66.2.1, GRB b89 A83 cp84 A86 cp87 v81.1, GRB b101 A95 cp96 A98 cp99 v93.1, GRB b113 A107 cp108 A110 cp111 v105.1] [RDS A1 cp2 a0, RDK A5 cp6 a0, RDS A9 cp10 a1, RDK A13 cp14 a1, RDS A37 cp38 v35, RDK A42 cp43 v35, LTS w49 A1 cp2 a0, LTK w49 A5 cp6 a0, LTS w49 A9 cp10 a1, LTK w49 A13 cp14 a1, LTS w49 A37 cp38 v35, LTK w49 A42 cp43 v35, RE.sz w49.heap.size, FRS w49 A53 cp54 v51.1, FRK w49 A56 cp57 v51.1, RDS A53 cp54 v51.1, RDK A56 cp57 v51.1, RDS A68 cp69 v66.1, RDK A71 cp72 v66.1, FRS w49 A83 cp84 v81.1, FRK w49 A86 cp87 v81.1, RDS A83 cp84 v81.1, RDK A86 cp87 v81.1, RDS A95 cp96 v93.1, RDK A98 cp99 v93.1, FRS w49 A107 cp108 v105.1, FRK w49 A110 cp111 v105.1, RDS A107 cp108 v105.1, RDK A110 cp111 v105.1]) => ?_))
   refine RL_p (x_assign (v := .int .i64 v105.2) (by rfl)) ?_
   refine RL_nil ?_
   refine W_seq ?_
   refine W_region ?_
   refine RL_p (x_loadA (j := 0) (vs := [.slice A1 a0.Arena.Slots.length cp2, .slice A5 a0.Kids.length cp6]) ag79 (by rfl) (H.cells (i := 0) (by rfl)) (by rfl) (by rfl)) ?_
   refine RL_p (x_loadA (j := 0) (vs := [.int .i64 a2.Slot, .int .i64 a2.Gen]) ag81 (by rfl) (H.cells (i := 2) (by rfl)) (by rfl) (by rfl)) ?_
   refine RL_p (x_loadA (j := 0) (vs := [.int .i64 a3.Slot, .int .i64 a3.Gen]) ag81 (by rfl) (H.cells (i := 3) (by rfl)) (by rfl) (by rfl)) ?_
   refine RL_p (x_move (v := .int .i64 a4) (by rfl)) ?_
   obtain ⟨v117, hv116, hm⟩ := bind_some hm
   refine RL_cons (O_call (by exact wn0 rfl) (by rfl) (by rfl) (x_callL (by rfl) (args := [.agg #[.slice A1 a0.Arena.Slots.length cp2, .slice A5 a0.Kids.length cp6], .agg #[.int .i64 a2.Slot, .int .i64 a2.Gen], .agg #[.int .i64 a3.Slot, .int .i64 a3.Gen], .int .i64 a4]) (by rfl) (cf51 _ _)) (c51 (okS ok w [GRB b17 A1 cp2 A5 cp6 a0, GRB b19 A9 cp10 A13 cp14 a1, HNB b21 a2, HNB b23 a3, .hole, .hole, GRB b47 A37 cp38 A42 cp43 v35, GRB b59 A53 cp54 A56 cp57 v51.1, HNB b61 v51.2.1, GRB b74 A68 cp69 A71 cp72 v66.1, HNB b76 v66.2.1, GRB b89 A83 cp84 A86 cp87 v81.1, GRB b101 A95 cp96 A98 cp99 v93.1, GRB b113 A107 cp108 A110 cp111 v105.1]) K w115 a0 A1 cp2 A5 cp6 a2 a3 a4 (H.rd (i := 0) (by rfl)) (H.rd (i := 1) (by rfl)) v117 hv116) ?_)
   rintro e w118 ⟨A119, cp120, A122, cp123, rfl, H2⟩
   have H : Sep ok w w118 [GRB b17 A1 cp2 A5 cp6 a0, GRB b19 A9 cp10 A13 cp14 a1, HNB b21 a2, HNB b23 a3, .hole, .hole, GRB b47 A37 cp38 A42 cp43 v35, GRB b59 A53 cp54 A56 cp57 v51.1, HNB b61 v51.2.1, GRB b74 A68 cp69 A71 cp72 v66.1, HNB b76 v66.2.1, GRB b89 A83 cp84 A86 cp87 v81.1, GRB b101 A95 cp96 A98 cp99 v93.1, GRB b113 A107 cp108 A110 cp111 v105.1] [RDS A1 cp2 a0, RDK A5 cp6 a0, RDS A9 cp10 a1, RDK A13 cp14 a1, RDS A37 cp38 v35, RDK A42 cp43 v35, LTS w49 A1 cp2 a0, LTK w49 A5 cp6 a0, LTS w49 A9 cp10 a1, LTK w49 A13 cp14 a1, LTS w49 A37 cp38 v35, LTK w49 A42 cp43 v35, RE.sz w49.heap.size, FRS w49 A53 cp54 v51.1, FRK w49 A56 cp57 v51.1, RDS A53 cp54 v51.1, RDK A56 cp57 v51.1, RDS A68 cp69 v66.1, RDK A71 cp72 v66.1, FRS w49 A83 cp84 v81.1, FRK w49 A86 cp87 v81.1, RDS A83 cp84 v81.1, RDK A86 cp87 v81.1, RDS A95 cp96 v93.1, RDK A98 cp99 v93.1, FRS w49 A107 cp108 v105.1, FRK w49 A110 cp111 v105.1, RDS A107 cp108 v105.1, RDK A110 cp111 v105.1, RDS A119 cp120 v117.1, RDK A122 cp123 v117.1] := H.call H2
   clear H2
   refine ⟨_, rfl, ?_⟩
   show RL _ _ _ _ _ _ _
   refine RL_p (x_move (v := tup [.agg #[.slice A119 v117.1.Arena.Slots.length cp120, .slice A122 v117.1.Kids.length cp123], .int .i64 v117.2]) (by rfl)) ?_
   refine RL_p (x_extract (v := .agg #[.slice A119 v117.1.Arena.Slots.length cp120, .slice A122 v117.1.Kids.length cp123]) (by rfl) (by rfl)) ?_
   refine RL_p (x_extract (v := .int .i64 v117.2) (by rfl) (by rfl)) ?_
   refine RL_cons (O_alloc (by exact wn0 rfl) (by rfl) ze79 (by rfl) H (fun w126 b125 (H : Sep ok w w126 [GRB b17 A1 cp2 A5 cp6 a0, GRB b19 A9 cp10 A13 cp14 a1, HNB b21 a2, HNB b23 a3, .hole, .hole, GRB b47 A37 cp38 A42 cp43 v35, GRB b59 A53 cp54 A56 cp57 v51.1, HNB b61 v51.2.1, GRB b74 A68 cp69 A71 cp72 v66.1, HNB b76 v66.2.1, GRB b89 A83 cp84 A86 cp87 v81.1, GRB b101 A95 cp96 A98 cp99 v93.1, GRB b113 A107 cp108 A110 cp111 v105.1, .blk b125 79 [.slice none 0 0, .slice none 0 0]] [RDS A1 cp2 a0, RDK A5 cp6 a0, RDS A9 cp10 a1, RDK A13 cp14 a1, RDS A37 cp38 v35, RDK A42 cp43 v35, LTS w49 A1 cp2 a0, LTK w49 A5 cp6 a0, LTS w49 A9 cp10 a1, LTK w49 A13 cp14 a1, LTS w49 A37 cp38 v35, LTK w49 A42 cp43 v35, RE.sz w49.heap.size, FRS w49 A53 cp54 v51.1, FRK w49 A56 cp57 v51.1, RDS A53 cp54 v51.1, RDK A56 cp57 v51.1, RDS A68 cp69 v66.1, RDK A71 cp72 v66.1, FRS w49 A83 cp84 v81.1, FRK w49 A86 cp87 v81.1, RDS A83 cp84 v81.1, RDK A86 cp87 v81.1, RDS A95 cp96 v93.1, RDK A98 cp99 v93.1, FRS w49 A107 cp108 v105.1, FRK w49 A110 cp111 v105.1, RDS A107 cp108 v105.1, RDK A110 cp111 v105.1, RDS A119 cp120 v117.1, RDK A122 cp123 v117.1]) => ?_))
   refine RL_cons (O_store (i := 14) (off := 0) (by exact wn0 rfl) (by rfl) (by rfl) H (by rfl) (vs := [.slice A119 v117.1.Arena.Slots.length cp120, .slice A122 v117.1.Kids.length cp123]) (by rfl) sz79 (by rfl) (by rfl) (by rfl) (fun w127 (H : Sep ok w w127 [GRB b17 A1 cp2 A5 cp6 a0, GRB b19 A9 cp10 A13 cp14 a1, HNB b21 a2, HNB b23 a3, .hole, .hole, GRB b47 A37 cp38 A42 cp43 v35, GRB b59 A53 cp54 A56 cp57 v51.1, HNB b61 v51.2.1, GRB b74 A68 cp69 A71 cp72 v66.1, HNB b76 v66.2.1, GRB b89 A83 cp84 A86 cp87 v81.1, GRB b101 A95 cp96 A98 cp99 v93.1, GRB b113 A107 cp108 A110 cp111 v105.1, GRB b125 A119 cp120 A122 cp123 v117.1] [RDS A1 cp2 a0, RDK A5 cp6 a0, RDS A9 cp10 a1, RDK A13 cp14 a1, RDS A37 cp38 v35, RDK A42 cp43 v35, LTS w49 A1 cp2 a0, LTK w49 A5 cp6 a0, LTS w49 A9 cp10 a1, LTK w49 A13 cp14 a1, LTS w49 A37 cp38 v35, LTK w49 A42 cp43 v35, RE.sz w49.heap.size, FRS w49 A53 cp54 v51.1, FRK w49 A56 cp57 v51.1, RDS A53 cp54 v51.1, RDK A56 cp57 v51.1, RDS A68 cp69 v66.1, RDK A71 cp72 v66.1, FRS w49 A83 cp84 v81.1, FRK w49 A86 cp87 v81.1, RDS A83 cp84 v81.1, RDK A86 cp87 v81.1, RDS A95 cp96 v93.1, RDK A98 cp99 v93.1, FRS w49 A107 cp108 v105.1, FRK w49 A110 cp111 v105.1, RDS A107 cp108 v105.1, RDK A110 cp111 v105.1, RDS A119 cp120 v117.1, RDK A122 cp123 v117.1]) => ?_))
   refine RL_p (x_assign (v := .int .i64 v117.2) (by rfl)) ?_
   refine RL_nil ?_
   refine W_seq ?_
   refine W_region ?_
   refine RL_p (x_loadA (j := 0) (vs := [.slice A37 v35.Arena.Slots.length cp38, .slice A42 v35.Kids.length cp43]) ag79 (by rfl) (H.cells (i := 6) (by rfl)) (by rfl) (by rfl)) ?_
   refine RL_p (x_loadA (j := 0) (vs := [.int .i64 a2.Slot, .int .i64 a2.Gen]) ag81 (by rfl) (H.cells (i := 2) (by rfl)) (by rfl) (by rfl)) ?_
   refine RL_p (x_move (v := .int .i64 a4) (by rfl)) ?_
   obtain ⟨v129, hv128, hm⟩ := bind_some hm
   have hmi : w49.heap.size ≤ w127.heap.size := H.rds 12 _ (by rfl)
   refine RL_cons (O_call (by exact wn0 rfl) (by rfl) (by rfl) (x_callL (by rfl) (args := [.agg #[.slice A37 v35.Arena.Slots.length cp38, .slice A42 v35.Kids.length cp43], .agg #[.int .i64 a2.Slot, .int .i64 a2.Gen], .int .i64 a4]) (by rfl) (cf41 _ _)) (c41n (okS ok w [GRB b17 A1 cp2 A5 cp6 a0, GRB b19 A9 cp10 A13 cp14 a1, HNB b21 a2, HNB b23 a3, .hole, .hole, GRB b47 A37 cp38 A42 cp43 v35, GRB b59 A53 cp54 A56 cp57 v51.1, HNB b61 v51.2.1, GRB b74 A68 cp69 A71 cp72 v66.1, HNB b76 v66.2.1, GRB b89 A83 cp84 A86 cp87 v81.1, GRB b101 A95 cp96 A98 cp99 v93.1, GRB b113 A107 cp108 A110 cp111 v105.1, GRB b125 A119 cp120 A122 cp123 v117.1]) (fun _ h => h) K w127 v35 A37 cp38 A42 cp43 a2 a4 (H.rd (i := 4) (by rfl)) (H.rd (i := 5) (by rfl)) v129 hv128) ?_)
   rintro e w130 ⟨A131, cp132, A134, cp135, rfl, H2⟩
   have H2 := H2.frLe (i := 0) (by rfl) hmi
   have H2 := H2.frLe (i := 1) (by rfl) hmi
   have H : Sep ok w w130 [GRB b17 A1 cp2 A5 cp6 a0, GRB b19 A9 cp10 A13 cp14 a1, HNB b21 a2, HNB b23 a3, .hole, .hole, GRB b47 A37 cp38 A42 cp43 v35, GRB b59 A53 cp54 A56 cp57 v51.1, HNB b61 v51.2.1, GRB b74 A68 cp69 A71 cp72 v66.1, HNB b76 v66.2.1, GRB b89 A83 cp84 A86 cp87 v81.1, GRB b101 A95 cp96 A98 cp99 v93.1, GRB b113 A107 cp108 A110 cp111 v105.1, GRB b125 A119 cp120 A122 cp123 v117.1] [RDS A1 cp2 a0, RDK A5 cp6 a0, RDS A9 cp10 a1, RDK A13 cp14 a1, RDS A37 cp38 v35, RDK A42 cp43 v35, LTS w49 A1 cp2 a0, LTK w49 A5 cp6 a0, LTS w49 A9 cp10 a1, LTK w49 A13 cp14 a1, LTS w49 A37 cp38 v35, LTK w49 A42 cp43 v35, RE.sz w49.heap.size, FRS w49 A53 cp54 v51.1, FRK w49 A56 cp57 v51.1, RDS A53 cp54 v51.1, RDK A56 cp57 v51.1, RDS A68 cp69 v66.1, RDK A71 cp72 v66.1, FRS w49 A83 cp84 v81.1, FRK w49 A86 cp87 v81.1, RDS A83 cp84 v81.1, RDK A86 cp87 v81.1, RDS A95 cp96 v93.1, RDK A98 cp99 v93.1, FRS w49 A107 cp108 v105.1, FRK w49 A110 cp111 v105.1, RDS A107 cp108 v105.1, RDK A110 cp111 v105.1, RDS A119 cp120 v117.1, RDK A122 cp123 v117.1, FRS w49 A131 cp132 v129.1, FRK w49 A134 cp135 v129.1] := H.call H2
   clear H2
   have H : Sep ok w w130 [GRB b17 A1 cp2 A5 cp6 a0, GRB b19 A9 cp10 A13 cp14 a1, HNB b21 a2, HNB b23 a3, .hole, .hole, GRB b47 A37 cp38 A42 cp43 v35, GRB b59 A53 cp54 A56 cp57 v51.1, HNB b61 v51.2.1, GRB b74 A68 cp69 A71 cp72 v66.1, HNB b76 v66.2.1, GRB b89 A83 cp84 A86 cp87 v81.1, GRB b101 A95 cp96 A98 cp99 v93.1, GRB b113 A107 cp108 A110 cp111 v105.1, GRB b125 A119 cp120 A122 cp123 v117.1] [RDS A1 cp2 a0, RDK A5 cp6 a0, RDS A9 cp10 a1, RDK A13 cp14 a1, RDS A37 cp38 v35, RDK A42 cp43 v35, LTS w49 A1 cp2 a0, LTK w49 A5 cp6 a0, LTS w49 A9 cp10 a1, LTK w49 A13 cp14 a1, LTS w49 A37 cp38 v35, LTK w49 A42 cp43 v35, RE.sz w49.heap.size, FRS w49 A53 cp54 v51.1, FRK w49 A56 cp57 v51.1, RDS A53 cp54 v51.1, RDK A56 cp57 v51.1, RDS A68 cp69 v66.1, RDK A71 cp72 v66.1, FRS w49 A83 cp84 v81.1, FRK w49 A86 cp87 v81.1, RDS A83 cp84 v81.1, RDK A86 cp87 v81.1, RDS A95 cp96 v93.1, RDK A98 cp99 v93.1, FRS w49 A107 cp108 v105.1, FRK w49 A110 cp111 v105.1, RDS A107 cp108 v105.1, RDK A110 cp111 v105.1, RDS A119 cp120 v117.1, RDK A122 cp123 v117.1, FRS w49 A131 cp132 v129.1, FRK w49 A134 cp135 v129.1, RDS A131 cp132 v129.1, RDK A134 cp135 v129.1] := ((H.alsoRd (i := 31) (by rfl)).alsoRd (i := 32) (by rfl))
   refine ⟨_, rfl, ?_⟩
   show RL _ _ _ _ _ _ _
   refine RL_p (x_move (v := tup [.agg #[.slice A131 v129.1.Arena.Slots.length cp132, .slice A134 v129.1.Kids.length cp135], .int .i64 v129.2]) (by rfl)) ?_
   refine RL_p (x_extract (v := .agg #[.slice A131 v129.1.Arena.Slots.length cp132, .slice A134 v129.1.Kids.length cp135]) (by rfl) (by rfl)) ?_
   refine RL_p (x_extract (v := .int .i64 v129.2) (by rfl) (by rfl)) ?_
   refine RL_cons (O_alloc (by exact wn0 rfl) (by rfl) ze79 (by rfl) H (fun w138 b137 (H : Sep ok w w138 [GRB b17 A1 cp2 A5 cp6 a0, GRB b19 A9 cp10 A13 cp14 a1, HNB b21 a2, HNB b23 a3, .hole, .hole, GRB b47 A37 cp38 A42 cp43 v35, GRB b59 A53 cp54 A56 cp57 v51.1, HNB b61 v51.2.1, GRB b74 A68 cp69 A71 cp72 v66.1, HNB b76 v66.2.1, GRB b89 A83 cp84 A86 cp87 v81.1, GRB b101 A95 cp96 A98 cp99 v93.1, GRB b113 A107 cp108 A110 cp111 v105.1, GRB b125 A119 cp120 A122 cp123 v117.1, .blk b137 79 [.slice none 0 0, .slice none 0 0]] [RDS A1 cp2 a0, RDK A5 cp6 a0, RDS A9 cp10 a1, RDK A13 cp14 a1, RDS A37 cp38 v35, RDK A42 cp43 v35, LTS w49 A1 cp2 a0, LTK w49 A5 cp6 a0, LTS w49 A9 cp10 a1, LTK w49 A13 cp14 a1, LTS w49 A37 cp38 v35, LTK w49 A42 cp43 v35, RE.sz w49.heap.size, FRS w49 A53 cp54 v51.1, FRK w49 A56 cp57 v51.1, RDS A53 cp54 v51.1, RDK A56 cp57 v51.1, RDS A68 cp69 v66.1, RDK A71 cp72 v66.1, FRS w49 A83 cp84 v81.1, FRK w49 A86 cp87 v81.1, RDS A83 cp84 v81.1, RDK A86 cp87 v81.1, RDS A95 cp96 v93.1, RDK A98 cp99 v93.1, FRS w49 A107 cp108 v105.1, FRK w49 A110 cp111 v105.1, RDS A107 cp108 v105.1, RDK A110 cp111 v105.1, RDS A119 cp120 v117.1, RDK A122 cp123 v117.1, FRS w49 A131 cp132 v129.1, FRK w49 A134 cp135 v129.1, RDS A131 cp132 v129.1, RDK A134 cp135 v129.1]) => ?_))
   refine RL_cons (O_store (i := 15) (off := 0) (by exact wn0 rfl) (by rfl) (by rfl) H (by rfl) (vs := [.slice A131 v129.1.Arena.Slots.length cp132, .slice A134 v129.1.Kids.length cp135]) (by rfl) sz79 (by rfl) (by rfl) (by rfl) (fun w139 (H : Sep ok w w139 [GRB b17 A1 cp2 A5 cp6 a0, GRB b19 A9 cp10 A13 cp14 a1, HNB b21 a2, HNB b23 a3, .hole, .hole, GRB b47 A37 cp38 A42 cp43 v35, GRB b59 A53 cp54 A56 cp57 v51.1, HNB b61 v51.2.1, GRB b74 A68 cp69 A71 cp72 v66.1, HNB b76 v66.2.1, GRB b89 A83 cp84 A86 cp87 v81.1, GRB b101 A95 cp96 A98 cp99 v93.1, GRB b113 A107 cp108 A110 cp111 v105.1, GRB b125 A119 cp120 A122 cp123 v117.1, GRB b137 A131 cp132 A134 cp135 v129.1] [RDS A1 cp2 a0, RDK A5 cp6 a0, RDS A9 cp10 a1, RDK A13 cp14 a1, RDS A37 cp38 v35, RDK A42 cp43 v35, LTS w49 A1 cp2 a0, LTK w49 A5 cp6 a0, LTS w49 A9 cp10 a1, LTK w49 A13 cp14 a1, LTS w49 A37 cp38 v35, LTK w49 A42 cp43 v35, RE.sz w49.heap.size, FRS w49 A53 cp54 v51.1, FRK w49 A56 cp57 v51.1, RDS A53 cp54 v51.1, RDK A56 cp57 v51.1, RDS A68 cp69 v66.1, RDK A71 cp72 v66.1, FRS w49 A83 cp84 v81.1, FRK w49 A86 cp87 v81.1, RDS A83 cp84 v81.1, RDK A86 cp87 v81.1, RDS A95 cp96 v93.1, RDK A98 cp99 v93.1, FRS w49 A107 cp108 v105.1, FRK w49 A110 cp111 v105.1, RDS A107 cp108 v105.1, RDK A110 cp111 v105.1, RDS A119 cp120 v117.1, RDK A122 cp123 v117.1, FRS w49 A131 cp132 v129.1, FRK w49 A134 cp135 v129.1, RDS A131 cp132 v129.1, RDK A134 cp135 v129.1]) => ?_))
   refine RL_p (x_assign (v := .int .i64 v129.2) (by rfl)) ?_
   refine RL_nil ?_
   refine W_seq ?_
   refine W_region ?_
   refine RL_p (x_loadA (j := 0) (vs := [.slice A1 a0.Arena.Slots.length cp2, .slice A5 a0.Kids.length cp6]) ag79 (by rfl) (H.cells (i := 0) (by rfl)) (by rfl) (by rfl)) ?_
   refine RL_p (x_loadA (j := 0) (vs := [.int .i64 a2.Slot, .int .i64 a2.Gen]) ag81 (by rfl) (H.cells (i := 2) (by rfl)) (by rfl) (by rfl)) ?_
   refine RL_p (x_move (v := .int .i64 a4) (by rfl)) ?_
   obtain ⟨v141, hv140, hm⟩ := bind_some hm
   refine RL_cons (O_call (by exact wn0 rfl) (by rfl) (by rfl) (x_callL (by rfl) (args := [.agg #[.slice A1 a0.Arena.Slots.length cp2, .slice A5 a0.Kids.length cp6], .agg #[.int .i64 a2.Slot, .int .i64 a2.Gen], .int .i64 a4]) (by rfl) (cf52 _ _)) (c52 (okS ok w [GRB b17 A1 cp2 A5 cp6 a0, GRB b19 A9 cp10 A13 cp14 a1, HNB b21 a2, HNB b23 a3, .hole, .hole, GRB b47 A37 cp38 A42 cp43 v35, GRB b59 A53 cp54 A56 cp57 v51.1, HNB b61 v51.2.1, GRB b74 A68 cp69 A71 cp72 v66.1, HNB b76 v66.2.1, GRB b89 A83 cp84 A86 cp87 v81.1, GRB b101 A95 cp96 A98 cp99 v93.1, GRB b113 A107 cp108 A110 cp111 v105.1, GRB b125 A119 cp120 A122 cp123 v117.1, GRB b137 A131 cp132 A134 cp135 v129.1]) K w139 a0 A1 cp2 A5 cp6 a2 a4 (H.rd (i := 0) (by rfl)) (H.rd (i := 1) (by rfl)) v141 hv140) ?_)
   rintro e w142 ⟨A143, cp144, A146, cp147, rfl, H2⟩
   have H : Sep ok w w142 [GRB b17 A1 cp2 A5 cp6 a0, GRB b19 A9 cp10 A13 cp14 a1, HNB b21 a2, HNB b23 a3, .hole, .hole, GRB b47 A37 cp38 A42 cp43 v35, GRB b59 A53 cp54 A56 cp57 v51.1, HNB b61 v51.2.1, GRB b74 A68 cp69 A71 cp72 v66.1, HNB b76 v66.2.1, GRB b89 A83 cp84 A86 cp87 v81.1, GRB b101 A95 cp96 A98 cp99 v93.1, GRB b113 A107 cp108 A110 cp111 v105.1, GRB b125 A119 cp120 A122 cp123 v117.1, GRB b137 A131 cp132 A134 cp135 v129.1] [RDS A1 cp2 a0, RDK A5 cp6 a0, RDS A9 cp10 a1, RDK A13 cp14 a1, RDS A37 cp38 v35, RDK A42 cp43 v35, LTS w49 A1 cp2 a0, LTK w49 A5 cp6 a0, LTS w49 A9 cp10 a1, LTK w49 A13 cp14 a1, LTS w49 A37 cp38 v35, LTK w49 A42 cp43 v35, RE.sz w49.heap.size, FRS w49 A53 cp54 v51.1, FRK w49 A56 cp57 v51.1, RDS A53 cp54 v51.1, RDK A56 cp57 v51.1, RDS A68 cp69 v66.1, RDK A71 cp72 v66.1, FRS w49 A83 cp84 v81.1, FRK w49 A86 cp87 v81.1, RDS A83 cp84 v81.1, RDK A86 cp87 v81.1, RDS A95 cp96 v93.1, RDK A98 cp99 v93.1, FRS w49 A107 cp108 v105.1, FRK w49 A110 cp111 v105.1, RDS A107 cp108 v105.1, RDK A110 cp111 v105.1, RDS A119 cp120 v117.1, RDK A122 cp123 v117.1, FRS w49 A131 cp132 v129.1, FRK w49 A134 cp135 v129.1, RDS A131 cp132 v129.1, RDK A134 cp135 v129.1, RDS A143 cp144 v141.1, RDK A146 cp147 v141.1] := H.call H2
   clear H2
   refine ⟨_, rfl, ?_⟩
   show RL _ _ _ _ _ _ _
   refine RL_p (x_move (v := tup [.agg #[.slice A143 v141.1.Arena.Slots.length cp144, .slice A146 v141.1.Kids.length cp147], .int .i64 v141.2]) (by rfl)) ?_
   refine RL_p (x_extract (v := .agg #[.slice A143 v141.1.Arena.Slots.length cp144, .slice A146 v141.1.Kids.length cp147]) (by rfl) (by rfl)) ?_
   refine RL_p (x_extract (v := .int .i64 v141.2) (by rfl) (by rfl)) ?_
   refine RL_cons (O_alloc (by exact wn0 rfl) (by rfl) ze79 (by rfl) H (fun w150 b149 (H : Sep ok w w150 [GRB b17 A1 cp2 A5 cp6 a0, GRB b19 A9 cp10 A13 cp14 a1, HNB b21 a2, HNB b23 a3, .hole, .hole, GRB b47 A37 cp38 A42 cp43 v35, GRB b59 A53 cp54 A56 cp57 v51.1, HNB b61 v51.2.1, GRB b74 A68 cp69 A71 cp72 v66.1, HNB b76 v66.2.1, GRB b89 A83 cp84 A86 cp87 v81.1, GRB b101 A95 cp96 A98 cp99 v93.1, GRB b113 A107 cp108 A110 cp111 v105.1, GRB b125 A119 cp120 A122 cp123 v117.1, GRB b137 A131 cp132 A134 cp135 v129.1, .blk b149 79 [.slice none 0 0, .slice none 0 0]] [RDS A1 cp2 a0, RDK A5 cp6 a0, RDS A9 cp10 a1, RDK A13 cp14 a1, RDS A37 cp38 v35, RDK A42 cp43 v35, LTS w49 A1 cp2 a0, LTK w49 A5 cp6 a0, LTS w49 A9 cp10 a1, LTK w49 A13 cp14 a1, LTS w49 A37 cp38 v35, LTK w49 A42 cp43 v35, RE.sz w49.heap.size, FRS w49 A53 cp54 v51.1, FRK w49 A56 cp57 v51.1, RDS A53 cp54 v51.1, RDK A56 cp57 v51.1, RDS A68 cp69 v66.1, RDK A71 cp72 v66.1, FRS w49 A83 cp84 v81.1, FRK w49 A86 cp87 v81.1, RDS A83 cp84 v81.1, RDK A86 cp87 v81.1, RDS A95 cp96 v93.1, RDK A98 cp99 v93.1, FRS w49 A107 cp108 v105.1, FRK w49 A110 cp111 v105.1, RDS A107 cp108 v105.1, RDK A110 cp111 v105.1, RDS A119 cp120 v117.1, RDK A122 cp123 v117.1, FRS w49 A131 cp132 v129.1, FRK w49 A134 cp135 v129.1, RDS A131 cp132 v129.1, RDK A134 cp135 v129.1, RDS A143 cp144 v141.1, RDK A146 cp147 v141.1]) => ?_))
   refine RL_cons (O_store (i := 16) (off := 0) (by exact wn0 rfl) (by rfl) (by rfl) H (by rfl) (vs := [.slice A143 v141.1.Arena.Slots.length cp144, .slice A146 v141.1.Kids.length cp147]) (by rfl) sz79 (by rfl) (by rfl) (by rfl) (fun w151 (H : Sep ok w w151 [GRB b17 A1 cp2 A5 cp6 a0, GRB b19 A9 cp10 A13 cp14 a1, HNB b21 a2, HNB b23 a3, .hole, .hole, GRB b47 A37 cp38 A42 cp43 v35, GRB b59 A53 cp54 A56 cp57 v51.1, HNB b61 v51.2.1, GRB b74 A68 cp69 A71 cp72 v66.1, HNB b76 v66.2.1, GRB b89 A83 cp84 A86 cp87 v81.1, GRB b101 A95 cp96 A98 cp99 v93.1, GRB b113 A107 cp108 A110 cp111 v105.1, GRB b125 A119 cp120 A122 cp123 v117.1, GRB b137 A131 cp132 A134 cp135 v129.1, GRB b149 A143 cp144 A146 cp147 v141.1] [RDS A1 cp2 a0, RDK A5 cp6 a0, RDS A9 cp10 a1, RDK A13 cp14 a1, RDS A37 cp38 v35, RDK A42 cp43 v35, LTS w49 A1 cp2 a0, LTK w49 A5 cp6 a0, LTS w49 A9 cp10 a1, LTK w49 A13 cp14 a1, LTS w49 A37 cp38 v35, LTK w49 A42 cp43 v35, RE.sz w49.heap.size, FRS w49 A53 cp54 v51.1, FRK w49 A56 cp57 v51.1, RDS A53 cp54 v51.1, RDK A56 cp57 v51.1, RDS A68 cp69 v66.1, RDK A71 cp72 v66.1, FRS w49 A83 cp84 v81.1, FRK w49 A86 cp87 v81.1, RDS A83 cp84 v81.1, RDK A86 cp87 v81.1, RDS A95 cp96 v93.1, RDK A98 cp99 v93.1, FRS w49 A107 cp108 v105.1, FRK w49 A110 cp111 v105.1, RDS A107 cp108 v105.1, RDK A110 cp111 v105.1, RDS A119 cp120 v117.1, RDK A122 cp123 v117.1, FRS w49 A131 cp132 v129.1, FRK w49 A134 cp135 v129.1, RDS A131 cp132 v129.1, RDK A134 cp135 v129.1, RDS A143 cp144 v141.1, RDK A146 cp147 v141.1]) => ?_))
   refine RL_p (x_assign (v := .int .i64 v141.2) (by rfl)) ?_
   refine RL_nil ?_
   refine W_seq ?_
   refine W_region ?_
   refine RL_p (x_loadA (j := 0) (vs := [.slice A37 v35.Arena.Slots.length cp38, .slice A42 v35.Kids.length cp43]) ag79 (by rfl) (H.cells (i := 6) (by rfl)) (by rfl) (by rfl)) ?_
   obtain ⟨v153, hv152, hm⟩ := bind_some hm
   have hmi : w49.heap.size ≤ w151.heap.size := H.rds 12 _ (by rfl)
   refine RL_cons (O_call (by exact wn0 rfl) (by rfl) (by rfl) (x_callL (by rfl) (args := [.agg #[.slice A37 v35.Arena.Slots.length cp38, .slice A42 v35.Kids.length cp43]]) (by rfl) (cf53 _ _)) (c53n (okS ok w [GRB b17 A1 cp2 A5 cp6 a0, GRB b19 A9 cp10 A13 cp14 a1, HNB b21 a2, HNB b23 a3, .hole, .hole, GRB b47 A37 cp38 A42 cp43 v35, GRB b59 A53 cp54 A56 cp57 v51.1, HNB b61 v51.2.1, GRB b74 A68 cp69 A71 cp72 v66.1, HNB b76 v66.2.1, GRB b89 A83 cp84 A86 cp87 v81.1, GRB b101 A95 cp96 A98 cp99 v93.1, GRB b113 A107 cp108 A110 cp111 v105.1, GRB b125 A119 cp120 A122 cp123 v117.1, GRB b137 A131 cp132 A134 cp135 v129.1, GRB b149 A143 cp144 A146 cp147 v141.1]) (fun _ h => h) K w151 v35 A37 cp38 A42 cp43 (H.rd (i := 4) (by rfl)) (H.rd (i := 5) (by rfl)) v153 hv152) ?_)
   rintro e w154 ⟨A155, cp156, A158, cp159, rfl, H2⟩
   have H2 := H2.frLe (i := 0) (by rfl) hmi
   have H2 := H2.frLe (i := 1) (by rfl) hmi
   have H : Sep ok w w154 [GRB b17 A1 cp2 A5 cp6 a0, GRB b19 A9 cp10 A13 cp14 a1, HNB b21 a2, HNB b23 a3, .hole, .hole, GRB b47 A37 cp38 A42 cp43 v35, GRB b59 A53 cp54 A56 cp57 v51.1, HNB b61 v51.2.1, GRB b74 A68 cp69 A71 cp72 v66.1, HNB b76 v66.2.1, GRB b89 A83 cp84 A86 cp87 v81.1, GRB b101 A95 cp96 A98 cp99 v93.1, GRB b113 A107 cp108 A110 cp111 v105.1, GRB b125 A119 cp120 A122 cp123 v117.1, GRB b137 A131 cp132 A134 cp135 v129.1, GRB b149 A143 cp144 A146 cp147 v141.1] [RDS A1 cp2 a0, RDK A5 cp6 a0, RDS A9 cp10 a1, RDK A13 cp14 a1, RDS A37 cp38 v35, RDK A42 cp43 v35, LTS w49 A1 cp2 a0, LTK w49 A5 cp6 a0, LTS w49 A9 cp10 a1, LTK w49 A13 cp14 a1, LTS w49 A37 cp38 v35, LTK w49 A42 cp43 v35, RE.sz w49.heap.size, FRS w49 A53 cp54 v51.1, FRK w49 A56 cp57 v51.1, RDS A53 cp54 v51.1, RDK A56 cp57 v51.1, RDS A68 cp69 v66.1, RDK A71 cp72 v66.1, FRS w49 A83 cp84 v81.1, FRK w49 A86 cp87 v81.1, RDS A83 cp84 v81.1, RDK A86 cp87 v81.1, RDS A95 cp96 v93.1, RDK A98 cp99 v93.1, FRS w49 A107 cp108 v105.1, FRK w49 A110 cp111 v105.1, RDS A107 cp108 v105.1, RDK A110 cp111 v105.1, RDS A119 cp120 v117.1, RDK A122 cp123 v117.1, FRS w49 A131 cp132 v129.1, FRK w49 A134 cp135 v129.1, RDS A131 cp132 v129.1, RDK A134 cp135 v129.1, RDS A143 cp144 v141.1, RDK A146 cp147 v141.1, FRS w49 A155 cp156 v153, FRK w49 A158 cp159 v153] := H.call H2
   clear H2
   have H : Sep ok w w154 [GRB b17 A1 cp2 A5 cp6 a0, GRB b19 A9 cp10 A13 cp14 a1, HNB b21 a2, HNB b23 a3, .hole, .hole, GRB b47 A37 cp38 A42 cp43 v35, GRB b59 A53 cp54 A56 cp57 v51.1, HNB b61 v51.2.1, GRB b74 A68 cp69 A71 cp72 v66.1, HNB b76 v66.2.1, GRB b89 A83 cp84 A86 cp87 v81.1, GRB b101 A95 cp96 A98 cp99 v93.1, GRB b113 A107 cp108 A110 cp111 v105.1, GRB b125 A119 cp120 A122 cp123 v117.1, GRB b137 A131 cp132 A134 cp135 v129.1, GRB b149 A143 cp144 A146 cp147 v141.1] [RDS A1 cp2 a0, RDK A5 cp6 a0, RDS A9 cp10 a1, RDK A13 cp14 a1, RDS A37 cp38 v35, RDK A42 cp43 v35, LTS w49 A1 cp2 a0, LTK w49 A5 cp6 a0, LTS w49 A9 cp10 a1, LTK w49 A13 cp14 a1, LTS w49 A37 cp38 v35, LTK w49 A42 cp43 v35, RE.sz w49.heap.size, FRS w49 A53 cp54 v51.1, FRK w49 A56 cp57 v51.1, RDS A53 cp54 v51.1, RDK A56 cp57 v51.1, RDS A68 cp69 v66.1, RDK A71 cp72 v66.1, FRS w49 A83 cp84 v81.1, FRK w49 A86 cp87 v81.1, RDS A83 cp84 v81.1, RDK A86 cp87 v81.1, RDS A95 cp96 v93.1, RDK A98 cp99 v93.1, FRS w49 A107 cp108 v105.1, FRK w49 A110 cp111 v105.1, RDS A107 cp108 v105.1, RDK A110 cp111 v105.1, RDS A119 cp120 v117.1, RDK A122 cp123 v117.1, FRS w49 A131 cp132 v129.1, FRK w49 A134 cp135 v129.1, RDS A131 cp132 v129.1, RDK A134 cp135 v129.1, RDS A143 cp144 v141.1, RDK A146 cp147 v141.1, FRS w49 A155 cp156 v153, FRK w49 A158 cp159 v153, RDS A155 cp156 v153, RDK A158 cp159 v153] := ((H.alsoRd (i := 37) (by rfl)).alsoRd (i := 38) (by rfl))
   refine ⟨_, rfl, ?_⟩
   show RL _ _ _ _ _ _ _
   refine RL_cons (O_alloc (by exact wn0 rfl) (by rfl) ze79 (by rfl) H (fun w162 b161 (H : Sep ok w w162 [GRB b17 A1 cp2 A5 cp6 a0, GRB b19 A9 cp10 A13 cp14 a1, HNB b21 a2, HNB b23 a3, .hole, .hole, GRB b47 A37 cp38 A42 cp43 v35, GRB b59 A53 cp54 A56 cp57 v51.1, HNB b61 v51.2.1, GRB b74 A68 cp69 A71 cp72 v66.1, HNB b76 v66.2.1, GRB b89 A83 cp84 A86 cp87 v81.1, GRB b101 A95 cp96 A98 cp99 v93.1, GRB b113 A107 cp108 A110 cp111 v105.1, GRB b125 A119 cp120 A122 cp123 v117.1, GRB b137 A131 cp132 A134 cp135 v129.1, GRB b149 A143 cp144 A146 cp147 v141.1, .blk b161 79 [.slice none 0 0, .slice none 0 0]] [RDS A1 cp2 a0, RDK A5 cp6 a0, RDS A9 cp10 a1, RDK A13 cp14 a1, RDS A37 cp38 v35, RDK A42 cp43 v35, LTS w49 A1 cp2 a0, LTK w49 A5 cp6 a0, LTS w49 A9 cp10 a1, LTK w49 A13 cp14 a1, LTS w49 A37 cp38 v35, LTK w49 A42 cp43 v35, RE.sz w49.heap.size, FRS w49 A53 cp54 v51.1, FRK w49 A56 cp57 v51.1, RDS A53 cp54 v51.1, RDK A56 cp57 v51.1, RDS A68 cp69 v66.1, RDK A71 cp72 v66.1, FRS w49 A83 cp84 v81.1, FRK w49 A86 cp87 v81.1, RDS A83 cp84 v81.1, RDK A86 cp87 v81.1, RDS A95 cp96 v93.1, RDK A98 cp99 v93.1, FRS w49 A107 cp108 v105.1, FRK w49 A110 cp111 v105.1, RDS A107 cp108 v105.1, RDK A110 cp111 v105.1, RDS A119 cp120 v117.1, RDK A122 cp123 v117.1, FRS w49 A131 cp132 v129.1, FRK w49 A134 cp135 v129.1, RDS A131 cp132 v129.1, RDK A134 cp135 v129.1, RDS A143 cp144 v141.1, RDK A146 cp147 v141.1, FRS w49 A155 cp156 v153, FRK w49 A158 cp159 v153, RDS A155 cp156 v153, RDK A158 cp159 v153]) => ?_))
   refine RL_cons (O_store (i := 17) (off := 0) (by exact wn0 rfl) (by rfl) (by rfl) H (by rfl) (vs := [.slice A155 v153.Arena.Slots.length cp156, .slice A158 v153.Kids.length cp159]) (by rfl) sz79 (by rfl) (by rfl) (by rfl) (fun w163 (H : Sep ok w w163 [GRB b17 A1 cp2 A5 cp6 a0, GRB b19 A9 cp10 A13 cp14 a1, HNB b21 a2, HNB b23 a3, .hole, .hole, GRB b47 A37 cp38 A42 cp43 v35, GRB b59 A53 cp54 A56 cp57 v51.1, HNB b61 v51.2.1, GRB b74 A68 cp69 A71 cp72 v66.1, HNB b76 v66.2.1, GRB b89 A83 cp84 A86 cp87 v81.1, GRB b101 A95 cp96 A98 cp99 v93.1, GRB b113 A107 cp108 A110 cp111 v105.1, GRB b125 A119 cp120 A122 cp123 v117.1, GRB b137 A131 cp132 A134 cp135 v129.1, GRB b149 A143 cp144 A146 cp147 v141.1, GRB b161 A155 cp156 A158 cp159 v153] [RDS A1 cp2 a0, RDK A5 cp6 a0, RDS A9 cp10 a1, RDK A13 cp14 a1, RDS A37 cp38 v35, RDK A42 cp43 v35, LTS w49 A1 cp2 a0, LTK w49 A5 cp6 a0, LTS w49 A9 cp10 a1, LTK w49 A13 cp14 a1, LTS w49 A37 cp38 v35, LTK w49 A42 cp43 v35, RE.sz w49.heap.size, FRS w49 A53 cp54 v51.1, FRK w49 A56 cp57 v51.1, RDS A53 cp54 v51.1, RDK A56 cp57 v51.1, RDS A68 cp69 v66.1, RDK A71 cp72 v66.1, FRS w49 A83 cp84 v81.1, FRK w49 A86 cp87 v81.1, RDS A83 cp84 v81.1, RDK A86 cp87 v81.1, RDS A95 cp96 v93.1, RDK A98 cp99 v93.1, FRS w49 A107 cp108 v105.1, FRK w49 A110 cp111 v105.1, RDS A107 cp108 v105.1, RDK A110 cp111 v105.1, RDS A119 cp120 v117.1, RDK A122 cp123 v117.1, FRS w49 A131 cp132 v129.1, FRK w49 A134 cp135 v129.1, RDS A131 cp132 v129.1, RDK A134 cp135 v129.1, RDS A143 cp144 v141.1, RDK A146 cp147 v141.1, FRS w49 A155 cp156 v153, FRK w49 A158 cp159 v153, RDS A155 cp156 v153, RDK A158 cp159 v153]) => ?_))
   refine RL_nil ?_
   refine W_seq ?_
   refine W_region ?_
   refine RL_p (x_loadA (j := 0) (vs := [.slice A53 v51.1.Arena.Slots.length cp54, .slice A56 v51.1.Kids.length cp57]) ag79 (by rfl) (H.cells (i := 7) (by rfl)) (by rfl) (by rfl)) ?_
   refine RL_p (x_loadA (j := 0) (vs := [.slice A68 v66.1.Arena.Slots.length cp69, .slice A71 v66.1.Kids.length cp72]) ag79 (by rfl) (H.cells (i := 9) (by rfl)) (by rfl) (by rfl)) ?_
   obtain ⟨v165, hv164, hm⟩ := bind_some hm
   refine RL_cons (O_call (by exact wn0 rfl) (by rfl) (by rfl) (x_callL (by rfl) (args := [.agg #[.slice A53 v51.1.Arena.Slots.length cp54, .slice A56 v51.1.Kids.length cp57], .agg #[.slice A68 v66.1.Arena.Slots.length cp69, .slice A71 v66.1.Kids.length cp72]]) (by rfl) (cf54 _ _)) (c54 okT K w163 v51.1 A53 cp54 A56 cp57 v66.1 A68 cp69 A71 cp72 (H.rd (i := 15) (by rfl)).any (H.rd (i := 16) (by rfl)).any (H.rd (i := 17) (by rfl)).any (H.rd (i := 18) (by rfl)).any v165 hv164) ?_)
   rintro e w166 ⟨rfl, H2⟩
   have H : Sep ok w w166 [GRB b17 A1 cp2 A5 cp6 a0, GRB b19 A9 cp10 A13 cp14 a1, HNB b21 a2, HNB b23 a3, .hole, .hole, GRB b47 A37 cp38 A42 cp43 v35, GRB b59 A53 cp54 A56 cp57 v51.1, HNB b61 v51.2.1, GRB b74 A68 cp69 A71 cp72 v66.1, HNB b76 v66.2.1, GRB b89 A83 cp84 A86 cp87 v81.1, GRB b101 A95 cp96 A98 cp99 v93.1, GRB b113 A107 cp108 A110 cp111 v105.1, GRB b125 A119 cp120 A122 cp123 v117.1, GRB b137 A131 cp132 A134 cp135 v129.1, GRB b149 A143 cp144 A146 cp147 v141.1, GRB b161 A155 cp156 A158 cp159 v153] [RDS A1 cp2 a0, RDK A5 cp6 a0, RDS A9 cp10 a1, RDK A13 cp14 a1, RDS A37 cp38 v35, RDK A42 cp43 v35, LTS w49 A1 cp2 a0, LTK w49 A5 cp6 a0, LTS w49 A9 cp10 a1, LTK w49 A13 cp14 a1, LTS w49 A37 cp38 v35, LTK w49 A42 cp43 v35, RE.sz w49.heap.size, FRS w49 A53 cp54 v51.1, FRK w49 A56 cp57 v51.1, RDS A53 cp54 v51.1, RDK A56 cp57 v51.1, RDS A68 cp69 v66.1, RDK A71 cp72 v66.1, FRS w49 A83 cp84 v81.1, FRK w49 A86 cp87 v81.1, RDS A83 cp84 v81.1, RDK A86 cp87 v81.1, RDS A95 cp96 v93.1, RDK A98 cp99 v93.1, FRS w49 A107 cp108 v105.1, FRK w49 A110 cp111 v105.1, RDS A107 cp108 v105.1, RDK A110 cp111 v105.1, RDS A119 cp120 v117.1, RDK A122 cp123 v117.1, FRS w49 A131 cp132 v129.1, FRK w49 A134 cp135 v129.1, RDS A131 cp132 v129.1, RDK A134 cp135 v129.1, RDS A143 cp144 v141.1, RDK A146 cp147 v141.1, FRS w49 A155 cp156 v153, FRK w49 A158 cp159 v153, RDS A155 cp156 v153, RDK A158 cp159 v153] := H.below H2.base
   clear H2
   refine ⟨_, rfl, ?_⟩
   show RL _ _ _ _ _ _ _
   refine RL_p (x_move (v := .bool v165) (by rfl)) ?_
   obtain ⟨b167, hmS, hm⟩ := bind_some hm
   refine RL_cut 4 (fun r' w' => Agr [(104, .bool b167), (5, .pointer (some ⟨b17, 0, none⟩)), (6, .pointer (some ⟨b19, 0, none⟩)), (11, .pointer (some ⟨b47, 0, none⟩)), (12, .pointer (some ⟨b59, 0, none⟩)), (14, .int .i64 v51.2.2), (17, .int .i64 v66.2.2), (18, .pointer (some ⟨b89, 0, none⟩)), (19, .int .i64 v81.2), (20, .pointer (some ⟨b101, 0, none⟩)), (21, .int .i64 v93.2), (22, .pointer (some ⟨b113, 0, none⟩)), (23, .int .i64 v105.2), (24, .pointer (some ⟨b125, 0, none⟩)), (25, .int .i64 v117.2), (26, .pointer (some ⟨b137, 0, none⟩)), (27, .int .i64 v129.2), (28, .pointer (some ⟨b149, 0, none⟩)), (29, .int .i64 v141.2), (30, .pointer (some ⟨b161, 0, none⟩))] r' ∧ Sep ok w w' [GRB b17 A1 cp2 A5 cp6 a0, GRB b19 A9 cp10 A13 cp14 a1, HNB b21 a2, HNB b23 a3, .hole, .hole, GRB b47 A37 cp38 A42 cp43 v35, GRB b59 A53 cp54 A56 cp57 v51.1, HNB b61 v51.2.1, GRB b74 A68 cp69 A71 cp72 v66.1, HNB b76 v66.2.1, GRB b89 A83 cp84 A86 cp87 v81.1, GRB b101 A95 cp96 A98 cp99 v93.1, GRB b113 A107 cp108 A110 cp111 v105.1, GRB b125 A119 cp120 A122 cp123 v117.1, GRB b137 A131 cp132 A134 cp135 v129.1, GRB b149 A143 cp144 A146 cp147 v141.1, GRB b161 A155 cp156 A158 cp159 v153] [RDS A1 cp2 a0, RDK A5 cp6 a0, RDS A9 cp10 a1, RDK A13 cp14 a1, RDS A37 cp38 v35, RDK A42 cp43 v35, LTS w49 A1 cp2 a0, LTK w49 A5 cp6 a0, LTS w49 A9 cp10 a1, LTK w49 A13 cp14 a1, LTS w49 A37 cp38 v35, LTK w49 A42 cp43 v35, RE.sz w49.heap.size, FRS w49 A53 cp54 v51.1, FRK w49 A56 cp57 v51.1, RDS A53 cp54 v51.1, RDK A56 cp57 v51.1, RDS A68 cp69 v66.1, RDK A71 cp72 v66.1, FRS w49 A83 cp84 v81.1, FRK w49 A86 cp87 v81.1, RDS A83 cp84 v81.1, RDK A86 cp87 v81.1, RDS A95 cp96 v93.1, RDK A98 cp99 v93.1, FRS w49 A107 cp108 v105.1, FRK w49 A110 cp111 v105.1, RDS A107 cp108 v105.1, RDK A110 cp111 v105.1, RDS A119 cp120 v117.1, RDK A122 cp123 v117.1, FRS w49 A131 cp132 v129.1, FRK w49 A134 cp135 v129.1, RDS A131 cp132 v129.1, RDK A134 cp135 v129.1, RDS A143 cp144 v141.1, RDK A146 cp147 v141.1, FRS w49 A155 cp156 v153, FRK w49 A158 cp159 v153, RDS A155 cp156 v153, RDK A158 cp159 v153]) ?_ ?_
   ·cases hbS : v165
    ·have hm := cond_f hbS hmS
     refine RL_cons (OpR_off (by exact wn2 rfl rfl rfl rfl) (by rfl) (by rfl) ?_)
     refine RL_cons (OpR_off (by exact wn2 rfl rfl rfl rfl) (by rfl) (by rfl) ?_)
     refine RL_cons (OpR_off (by exact wn2 rfl rfl rfl rfl) (by rfl) (by rfl) ?_)
     refine RL_p (x_pick_f (v := .bool false) (by rfl) (by rfl)) ?_
     refine RL_nil ?_
     exact ⟨⟨congrArg Value.bool (Option.some.inj hm), rfl, rfl, rfl, rfl, rfl, rfl, rfl, rfl, rfl, rfl, rfl, rfl, rfl, rfl, rfl, rfl, rfl, rfl, rfl, trivial⟩, H⟩
    ·have hm := cond_t hbS hmS
     refine RL_pure (by exact wn1 rfl rfl rfl rfl) (by rfl) (by rfl) (x_loadA (j := 0) (vs := [.int .i64 v51.2.1.Slot, .int .i64 v51.2.1.Gen]) ag81 (by rfl) (H.cells (i := 8) (by rfl)) (by rfl) (by rfl)) ?_
     refine RL_pure (by exact wn1 rfl rfl rfl rfl) (by rfl) (by rfl) (x_loadA (j := 0) (vs := [.int .i64 v66.2.1.Slot, .int .i64 v66.2.1.Gen]) ag81 (by rfl) (H.cells (i := 10) (by rfl)) (by rfl) (by rfl)) ?_
     refine RL_pure (by exact wn1 rfl rfl rfl rfl) (by rfl) (by rfl) (x_eqls ep81 eg81 (by rfl) (by rfl) (b := ((v51.2.1.Slot == v66.2.1.Slot) && (v51.2.1.Gen == v66.2.1.Gen))) (by rfl)) ?_
     refine RL_p (x_pick_t (v := .bool ((v51.2.1.Slot == v66.2.1.Slot) && (v51.2.1.Gen == v66.2.1.Gen))) (by rfl) (by rfl)) ?_
     refine RL_nil ?_
     exact ⟨⟨congrArg Value.bool (Option.some.inj hm), rfl, rfl, rfl, rfl, rfl, rfl, rfl, rfl, rfl, rfl, rfl, rfl, rfl, rfl, rfl, rfl, rfl, rfl, rfl, trivial⟩, H⟩
   ·rintro r' w' ⟨hA, H⟩
    obtain ⟨r168, rfl⟩ := regen _ hA; clear hA
    obtain ⟨w169, rfl⟩ : ∃ W : World, W = w' := ⟨_, rfl⟩
    show RL _ _ _ _ _ _ _
    refine RL_p (x_move (v := .bool b167) (by rfl)) ?_
    obtain ⟨b170, hmS, hm⟩ := bind_some hm
    refine RL_cut 4 (fun r' w' => Agr [(109, .bool b170), (5, .pointer (some ⟨b17, 0, none⟩)), (6, .pointer (some ⟨b19, 0, none⟩)), (11, .pointer (some ⟨b47, 0, none⟩)), (12, .pointer (some ⟨b59, 0, none⟩)), (18, .pointer (some ⟨b89, 0, none⟩)), (19, .int .i64 v81.2), (20, .pointer (some ⟨b101, 0, none⟩)), (21, .int .i64 v93.2), (22, .pointer (some ⟨b113, 0, none⟩)), (23, .int .i64 v105.2), (24, .pointer (some ⟨b125, 0, none⟩)), (25, .int .i64 v117.2), (26, .pointer (some ⟨b137, 0, none⟩)), (27, .int .i64 v129.2), (28, .pointer (some ⟨b149, 0, none⟩)), (29, .int .i64 v141.2), (30, .pointer (some ⟨b161, 0, none⟩))] r' ∧ Sep ok w w' [GRB b17 A1 cp2 A5 cp6 a0, GRB b19 A9 cp10 A13 cp14 a1, HNB b21 a2, HNB b23 a3, .hole, .hole, GRB b47 A37 cp38 A42 cp43 v35, GRB b59 A53 cp54 A56 cp57 v51.1, HNB b61 v51.2.1, GRB b74 A68 cp69 A71 cp72 v66.1, HNB b76 v66.2.1, GRB b89 A83 cp84 A86 cp87 v81.1, GRB b101 A95 cp96 A98 cp99 v93.1, GRB b113 A107 cp108 A110 cp111 v105.1, GRB b125 A119 cp120 A122 cp123 v117.1, GRB b137 A131 cp132 A134 cp135 v129.1, GRB b149 A143 cp144 A146 cp147 v141.1, GRB b161 A155 cp156 A158 cp159 v153] [RDS A1 cp2 a0, RDK A5 cp6 a0, RDS A9 cp10 a1, RDK A13 cp14 a1, RDS A37 cp38 v35, RDK A42 cp43 v35, LTS w49 A1 cp2 a0, LTK w49 A5 cp6 a0, LTS w49 A9 cp10 a1, LTK w49 A13 cp14 a1, LTS w49 A37 cp38 v35, LTK w49 A42 cp43 v35, RE.sz w49.heap.size, FRS w49 A53 cp54 v51.1, FRK w49 A56 cp57 v51.1, RDS A53 cp54 v51.1, RDK A56 cp57 v51.1, RDS A68 cp69 v66.1, RDK A71 cp72 v66.1, FRS w49 A83 cp84 v81.1, FRK w49 A86 cp87 v81.1, RDS A83 cp84 v81.1, RDK A86 cp87 v81.1, RDS A95 cp96 v93.1, RDK A98 cp99 v93.1, FRS w49 A107 cp108 v105.1, FRK w49 A110 cp111 v105.1, RDS A107 cp108 v105.1, RDK A110 cp111 v105.1, RDS A119 cp120 v117.1, RDK A122 cp123 v117.1, FRS w49 A131 cp132 v129.1, FRK w49 A134 cp135 v129.1, RDS A131 cp132 v129.1, RDK A134 cp135 v129.1, RDS A143 cp144 v141.1, RDK A146 cp147 v141.1, FRS w49 A155 cp156 v153, FRK w49 A158 cp159 v153, RDS A155 cp156 v153, RDK A158 cp159 v153]) ?_ ?_
    ·cases hbS : b167
     ·have hm := cond_f hbS hmS
      refine RL_cons (OpR_off (by exact wn2 rfl rfl rfl rfl) (by rfl) (by rfl) ?_)
      refine RL_cons (OpR_off (by exact wn2 rfl rfl rfl rfl) (by rfl) (by rfl) ?_)
      refine RL_cons (OpR_off (by exact wn2 rfl rfl rfl rfl) (by rfl) (by rfl) ?_)
      refine RL_p (x_pick_f (v := .bool false) (by rfl) (by rfl)) ?_
      refine RL_nil ?_
      exact ⟨⟨congrArg Value.bool (Option.some.inj hm), rfl, rfl, rfl, rfl, rfl, rfl, rfl, rfl, rfl, rfl, rfl, rfl, rfl, rfl, rfl, rfl, rfl, trivial⟩, H⟩
     ·have hm := cond_t hbS hmS
      refine RL_pure (by exact wn1 rfl rfl rfl rfl) (by rfl) (by rfl) (x_move (v := .int .i64 v51.2.2) (by rfl)) ?_
      refine RL_pure (by exact wn1 rfl rfl rfl rfl) (by rfl) (by rfl) (x_move (v := .int .i64 v66.2.2) (by rfl)) ?_
      refine RL_pure (by exact wn1 rfl rfl rfl rfl) (by rfl) (by rfl) (x_eql (by rfl) (by rfl)) ?_
      refine RL_p (x_pick_t (v := .bool (v51.2.2 == v66.2.2)) (by rfl) (by rfl)) ?_
      refine RL_nil ?_
      exact ⟨⟨congrArg Value.bool (Option.some.inj hm), rfl, rfl, rfl, rfl, rfl, rfl, rfl, rfl, rfl, rfl, rfl, rfl, rfl, rfl, rfl, rfl, rfl, trivial⟩, H⟩
    ·rintro r' w' ⟨hA, H⟩
     obtain ⟨r171, rfl⟩ := regen _ hA; clear hA
     obtain ⟨w172, rfl⟩ : ∃ W : World, W = w' := ⟨_, rfl⟩
     show RL _ _ _ _ _ _ _
     refine RL_p (x_move (v := .bool b170) (by rfl)) ?_
     obtain ⟨b173, hmS, hm⟩ := bind_some hm
     refine RL_cut 4 (fun r' w' => Agr [(114, .bool b173), (5, .pointer (some ⟨b17, 0, none⟩)), (6, .pointer (some ⟨b19, 0, none⟩)), (11, .pointer (some ⟨b47, 0, none⟩)), (12, .pointer (some ⟨b59, 0, none⟩)), (18, .pointer (some ⟨b89, 0, none⟩)), (19, .int .i64 v81.2), (21, .int .i64 v93.2), (22, .pointer (some ⟨b113, 0, none⟩)), (23, .int .i64 v105.2), (24, .pointer (some ⟨b125, 0, none⟩)), (25, .int .i64 v117.2), (26, .pointer (some ⟨b137, 0, none⟩)), (27, .int .i64 v129.2), (28, .pointer (some ⟨b149, 0, none⟩)), (29, .int .i64 v141.2), (30, .pointer (some ⟨b161, 0, none⟩))] r' ∧ Sep ok w w' [GRB b17 A1 cp2 A5 cp6 a0, GRB b19 A9 cp10 A13 cp14 a1, HNB b21 a2, HNB b23 a3, .hole, .hole, GRB b47 A37 cp38 A42 cp43 v35, GRB b59 A53 cp54 A56 cp57 v51.1, HNB b61 v51.2.1, GRB b74 A68 cp69 A71 cp72 v66.1, HNB b76 v66.2.1, GRB b89 A83 cp84 A86 cp87 v81.1, GRB b101 A95 cp96 A98 cp99 v93.1, GRB b113 A107 cp108 A110 cp111 v105.1, GRB b125 A119 cp120 A122 cp123 v117.1, GRB b137 A131 cp132 A134 cp135 v129.1, GRB b149 A143 cp144 A146 cp147 v141.1, GRB b161 A155 cp156 A158 cp159 v153] [RDS A1 cp2 a0, RDK A5 cp6 a0, RDS A9 cp10 a1, RDK A13 cp14 a1, RDS A37 cp38 v35, RDK A42 cp43 v35, LTS w49 A1 cp2 a0, LTK w49 A5 cp6 a0, LTS w49 A9 cp10 a1, LTK w49 A13 cp14 a1, LTS w49 A37 cp38 v35, LTK w49 A42 cp43 v35, RE.sz w49.heap.size, FRS w49 A53 cp54 v51.1, FRK w49 A56 cp57 v51.1, RDS A53 cp54 v51.1, RDK A56 cp57 v51.1, RDS A68 cp69 v66.1, RDK A71 cp72 v66.1, FRS w49 A83 cp84 v81.1, FRK w49 A86 cp87 v81.1, RDS A83 cp84 v81.1, RDK A86 cp87 v81.1, RDS A95 cp96 v93.1, RDK A98 cp99 v93.1, FRS w49 A107 cp108 v105.1, FRK w49 A110 cp111 v105.1, RDS A107 cp108 v105.1, RDK A110 cp111 v105.1, RDS A119 cp120 v117.1, RDK A122 cp123 v117.1, FRS w49 A131 cp132 v129.1, FRK w49 A134 cp135 v129.1, RDS A131 cp132 v129.1, RDK A134 cp135 v129.1, RDS A143 cp144 v141.1, RDK A146 cp147 v141.1, FRS w49 A155 cp156 v153, FRK w49 A158 cp159 v153, RDS A155 cp156 v153, RDK A158 cp159 v153]) ?_ ?_
     ·cases hbS : b170
      ·have hm := cond_f hbS hmS
       refine RL_cons (OpR_off (by exact wn2 rfl rfl rfl rfl) (by rfl) (by rfl) ?_)
       refine RL_cons (OpR_off (by exact wn2 rfl rfl rfl rfl) (by rfl) (by rfl) ?_)
       refine RL_cons (OpR_off (by exact wn2 rfl rfl rfl rfl) (by rfl) (by rfl) ?_)
       refine RL_p (x_pick_f (v := .bool false) (by rfl) (by rfl)) ?_
       refine RL_nil ?_
       exact ⟨⟨congrArg Value.bool (Option.some.inj hm), rfl, rfl, rfl, rfl, rfl, rfl, rfl, rfl, rfl, rfl, rfl, rfl, rfl, rfl, rfl, rfl, trivial⟩, H⟩
      ·have hm := cond_t hbS hmS
       refine RL_pure (by exact wn1 rfl rfl rfl rfl) (by rfl) (by rfl) (x_loadA (j := 0) (vs := [.slice A83 v81.1.Arena.Slots.length cp84, .slice A86 v81.1.Kids.length cp87]) ag79 (by rfl) (H.cells (i := 11) (by rfl)) (by rfl) (by rfl)) ?_
       refine RL_pure (by exact wn1 rfl rfl rfl rfl) (by rfl) (by rfl) (x_loadA (j := 0) (vs := [.slice A95 v93.1.Arena.Slots.length cp96, .slice A98 v93.1.Kids.length cp99]) ag79 (by rfl) (H.cells (i := 12) (by rfl)) (by rfl) (by rfl)) ?_
       obtain ⟨v175, hv174, hm⟩ := bind_some hm
       refine RL_cons (O_call (by exact wn1 rfl rfl rfl rfl) (by rfl) (by rfl) (x_callL (by rfl) (args := [.agg #[.slice A83 v81.1.Arena.Slots.length cp84, .slice A86 v81.1.Kids.length cp87], .agg #[.slice A95 v93.1.Arena.Slots.length cp96, .slice A98 v93.1.Kids.length cp99]]) (by rfl) (cf54 _ _)) (c54 okT K w172 v81.1 A83 cp84 A86 cp87 v93.1 A95 cp96 A98 cp99 (H.rd (i := 21) (by rfl)).any (H.rd (i := 22) (by rfl)).any (H.rd (i := 23) (by rfl)).any (H.rd (i := 24) (by rfl)).any v175 hv174) ?_)
       rintro e w176 ⟨rfl, H2⟩
       have H : Sep ok w w176 [GRB b17 A1 cp2 A5 cp6 a0, GRB b19 A9 cp10 A13 cp14 a1, HNB b21 a2, HNB b23 a3, .hole, .hole, GRB b47 A37 cp38 A42 cp43 v35, GRB b59 A53 cp54 A56 cp57 v51.1, HNB b61 v51.2.1, GRB b74 A68 cp69 A71 cp72 v66.1, HNB b76 v66.2.1, GRB b89 A83 cp84 A86 cp87 v81.1, GRB b101 A95 cp96 A98 cp99 v93.1, GRB b113 A107 cp108 A110 cp111 v105.1, GRB b125 A119 cp120 A122 cp123 v117.1, GRB b137 A131 cp132 A134 cp135 v129.1, GRB b149 A143 cp144 A146 cp147 v141.1, GRB b161 A155 cp156 A158 cp159 v153] [RDS A1 cp2 a0, RDK A5 cp6 a0, RDS A9 cp10 a1, RDK A13 cp14 a1, RDS A37 cp38 v35, RDK A42 cp43 v35, LTS w49 A1 cp2 a0, LTK w49 A5 cp6 a0, LTS w49 A9 cp10 a1, LTK w49 A13 cp14 a1, LTS w49 A37 cp38 v35, LTK w49 A42 cp43 v35, RE.sz w49.heap.size, FRS w49 A53 cp54 v51.1, FRK w49 A56 cp57 v51.1, RDS A53 cp54 v51.1, RDK A56 cp57 v51.1, RDS A68 cp69 v66.1, RDK A71 cp72 v66.1, FRS w49 A83 cp84 v81.1, FRK w49 A86 cp87 v81.1, RDS A83 cp84 v81.1, RDK A86 cp87 v81.1, RDS A95 cp96 v93.1, RDK A98 cp99 v93.1, FRS w49 A107 cp108 v105.1, FRK w49 A110 cp111 v105.1, RDS A107 cp108 v105.1, RDK A110 cp111 v105.1, RDS A119 cp120 v117.1, RDK A122 cp123 v117.1, FRS w49 A131 cp132 v129.1, FRK w49 A134 cp135 v129.1, RDS A131 cp132 v129.1, RDK A134 cp135 v129.1, RDS A143 cp144 v141.1, RDK A146 cp147 v141.1, FRS w49 A155 cp156 v153, FRK w49 A158 cp159 v153, RDS A155 cp156 v153, RDK A158 cp159 v153] := H.below H2.base
       clear H2
       refine ⟨_, rfl, ?_⟩
       show RL _ _ _ _ _ _ _
       refine RL_p (x_pick_t (v := .bool v175) (by rfl) (by rfl)) ?_
       refine RL_nil ?_
       exact ⟨⟨congrArg Value.bool (Option.some.inj hm), rfl, rfl, rfl, rfl, rfl, rfl, rfl, rfl, rfl, rfl, rfl, rfl, rfl, rfl, rfl, rfl, trivial⟩, H⟩
     ·rintro r' w' ⟨hA, H⟩
      obtain ⟨r177, rfl⟩ := regen _ hA; clear hA
      obtain ⟨w178, rfl⟩ : ∃ W : World, W = w' := ⟨_, rfl⟩
      show RL _ _ _ _ _ _ _
      refine RL_p (x_move (v := .bool b173) (by rfl)) ?_
      obtain ⟨b179, hmS, hm⟩ := bind_some hm
      refine RL_cut 4 (fun r' w' => Agr [(119, .bool b179), (5, .pointer (some ⟨b17, 0, none⟩)), (6, .pointer (some ⟨b19, 0, none⟩)), (11, .pointer (some ⟨b47, 0, none⟩)), (12, .pointer (some ⟨b59, 0, none⟩)), (18, .pointer (some ⟨b89, 0, none⟩)), (22, .pointer (some ⟨b113, 0, none⟩)), (23, .int .i64 v105.2), (24, .pointer (some ⟨b125, 0, none⟩)), (25, .int .i64 v117.2), (26, .pointer (some ⟨b137, 0, none⟩)), (27, .int .i64 v129.2), (28, .pointer (some ⟨b149, 0, none⟩)), (29, .int .i64 v141.2), (30, .pointer (some ⟨b161, 0, none⟩))] r' ∧ Sep ok w w' [GRB b17 A1 cp2 A5 cp6 a0, GRB b19 A9 cp10 A13 cp14 a1, HNB b21 a2, HNB b23 a3, .hole, .hole, GRB b47 A37 cp38 A42 cp43 v35, GRB b59 A53 cp54 A56 cp57 v51.1, HNB b61 v51.2.1, GRB b74 A68 cp69 A71 cp72 v66.1, HNB b76 v66.2.1, GRB b89 A83 cp84 A86 cp87 v81.1, GRB b101 A95 cp96 A98 cp99 v93.1, GRB b113 A107 cp108 A110 cp111 v105.1, GRB b125 A119 cp120 A122 cp123 v117.1, GRB b137 A131 cp132 A134 cp135 v129.1, GRB b149 A143 cp144 A146 cp147 v141.1, GRB b161 A155 cp156 A158 cp159 v153] [RDS A1 cp2 a0, RDK A5 cp6 a0, RDS A9 cp10 a1, RDK A13 cp14 a1, RDS A37 cp38 v35, RDK A42 cp43 v35, LTS w49 A1 cp2 a0, LTK w49 A5 cp6 a0, LTS w49 A9 cp10 a1, LTK w49 A13 cp14 a1, LTS w49 A37 cp38 v35, LTK w49 A42 cp43 v35, RE.sz w49.heap.size, FRS w49 A53 cp54 v51.1, FRK w49 A56 cp57 v51.1, RDS A53 cp54 v51.1, RDK A56 cp57 v51.1, RDS A68 cp69 v66.1, RDK A71 cp72 v66.1, FRS w49 A83 cp84 v81.1, FRK w49 A86 cp87 v81.1, RDS A83 cp84 v81.1, RDK A86 cp87 v81.1, RDS A95 cp96 v93.1, RDK A98 cp99 v93.1, FRS w49 A107 cp108 v105.1, FRK w49 A110 cp111 v105.1, RDS A107 cp108 v105.1, RDK A110 cp111 v105.1, RDS A119 cp120 v117.1, RDK A122 cp123 v117.1, FRS w49 A131 cp132 v129.1, FRK w49 A134 cp135 v129.1, RDS A131 cp132 v129.1, RDK A134 cp135 v129.1, RDS A143 cp144 v141.1, RDK A146 cp147 v141.1, FRS w49 A155 cp156 v153, FRK w49 A158 cp159 v153, RDS A155 cp156 v153, RDK A158 cp159 v153]) ?_ ?_
      ·cases hbS : b173
       ·have hm := cond_f hbS hmS
        refine RL_cons (OpR_off (by exact wn2 rfl rfl rfl rfl) (by rfl) (by rfl) ?_)
        refine RL_cons (OpR_off (by exact wn2 rfl rfl rfl rfl) (by rfl) (by rfl) ?_)
        refine RL_cons (OpR_off (by exact wn2 rfl rfl rfl rfl) (by rfl) (by rfl) ?_)
        refine RL_p (x_pick_f (v := .bool false) (by rfl) (by rfl)) ?_
        refine RL_nil ?_
        exact ⟨⟨congrArg Value.bool (Option.some.inj hm), rfl, rfl, rfl, rfl, rfl, rfl, rfl, rfl, rfl, rfl, rfl, rfl, rfl, rfl, trivial⟩, H⟩
       ·have hm := cond_t hbS hmS
        refine RL_pure (by exact wn1 rfl rfl rfl rfl) (by rfl) (by rfl) (x_move (v := .int .i64 v81.2) (by rfl)) ?_
        refine RL_pure (by exact wn1 rfl rfl rfl rfl) (by rfl) (by rfl) (x_move (v := .int .i64 v93.2) (by rfl)) ?_
        refine RL_pure (by exact wn1 rfl rfl rfl rfl) (by rfl) (by rfl) (x_eql (by rfl) (by rfl)) ?_
        refine RL_p (x_pick_t (v := .bool (v81.2 == v93.2)) (by rfl) (by rfl)) ?_
        refine RL_nil ?_
        exact ⟨⟨congrArg Value.bool (Option.some.inj hm), rfl, rfl, rfl, rfl, rfl, rfl, rfl, rfl, rfl, rfl, rfl, rfl, rfl, rfl, trivial⟩, H⟩
      ·rintro r' w' ⟨hA, H⟩
       obtain ⟨r180, rfl⟩ := regen _ hA; clear hA
       obtain ⟨w181, rfl⟩ : ∃ W : World, W = w' := ⟨_, rfl⟩
       show RL _ _ _ _ _ _ _
       refine RL_p (x_move (v := .bool b179) (by rfl)) ?_
       obtain ⟨b182, hmS, hm⟩ := bind_some hm
       refine RL_cut 4 (fun r' w' => Agr [(124, .bool b182), (5, .pointer (some ⟨b17, 0, none⟩)), (6, .pointer (some ⟨b19, 0, none⟩)), (11, .pointer (some ⟨b47, 0, none⟩)), (12, .pointer (some ⟨b59, 0, none⟩)), (18, .pointer (some ⟨b89, 0, none⟩)), (22, .pointer (some ⟨b113, 0, none⟩)), (23, .int .i64 v105.2), (25, .int .i64 v117.2), (26, .pointer (some ⟨b137, 0, none⟩)), (27, .int .i64 v129.2), (28, .pointer (some ⟨b149, 0, none⟩)), (29, .int .i64 v141.2), (30, .pointer (some ⟨b161, 0, none⟩))] r' ∧ Sep ok w w' [GRB b17 A1 cp2 A5 cp6 a0, GRB b19 A9 cp10 A13 cp14 a1, HNB b21 a2, HNB b23 a3, .hole, .hole, GRB b47 A37 cp38 A42 cp43 v35, GRB b59 A53 cp54 A56 cp57 v51.1, HNB b61 v51.2.1, GRB b74 A68 cp69 A71 cp72 v66.1, HNB b76 v66.2.1, GRB b89 A83 cp84 A86 cp87 v81.1, GRB b101 A95 cp96 A98 cp99 v93.1, GRB b113 A107 cp108 A110 cp111 v105.1, GRB b125 A119 cp120 A122 cp123 v117.1, GRB b137 A131 cp132 A134 cp135 v129.1, GRB b149 A143 cp144 A146 cp147 v141.1, GRB b161 A155 cp156 A158 cp159 v153] [RDS A1 cp2 a0, RDK A5 cp6 a0, RDS A9 cp10 a1, RDK A13 cp14 a1, RDS A37 cp38 v35, RDK A42 cp43 v35, LTS w49 A1 cp2 a0, LTK w49 A5 cp6 a0, LTS w49 A9 cp10 a1, LTK w49 A13 cp14 a1, LTS w49 A37 cp38 v35, LTK w49 A42 cp43 v35, RE.sz w49.heap.size, FRS w49 A53 cp54 v51.1, FRK w49 A56 cp57 v51.1, RDS A53 cp54 v51.1, RDK A56 cp57 v51.1, RDS A68 cp69 v66.1, RDK A71 cp72 v66.1, FRS w49 A83 cp84 v81.1, FRK w49 A86 cp87 v81.1, RDS A83 cp84 v81.1, RDK A86 cp87 v81.1, RDS A95 cp96 v93.1, RDK A98 cp99 v93.1, FRS w49 A107 cp108 v105.1, FRK w49 A110 cp111 v105.1, RDS A107 cp108 v105.1, RDK A110 cp111 v105.1, RDS A119 cp120 v117.1, RDK A122 cp123 v117.1, FRS w49 A131 cp132 v129.1, FRK w49 A134 cp135 v129.1, RDS A131 cp132 v129.1, RDK A134 cp135 v129.1, RDS A143 cp144 v141.1, RDK A146 cp147 v141.1, FRS w49 A155 cp156 v153, FRK w49 A158 cp159 v153, RDS A155 cp156 v153, RDK A158 cp159 v153]) ?_ ?_
       ·cases hbS : b179
        ·have hm := cond_f hbS hmS
         refine RL_cons (OpR_off (by exact wn2 rfl rfl rfl rfl) (by rfl) (by rfl) ?_)
         refine RL_cons (OpR_off (by exact wn2 rfl rfl rfl rfl) (by rfl) (by rfl) ?_)
         refine RL_cons (OpR_off (by exact wn2 rfl rfl rfl rfl) (by rfl) (by rfl) ?_)
         refine RL_p (x_pick_f (v := .bool false) (by rfl) (by rfl)) ?_
         refine RL_nil ?_
         exact ⟨⟨congrArg Value.bool (Option.some.inj hm), rfl, rfl, rfl, rfl, rfl, rfl, rfl, rfl, rfl, rfl, rfl, rfl, rfl, trivial⟩, H⟩
        ·have hm := cond_t hbS hmS
         refine RL_pure (by exact wn1 rfl rfl rfl rfl) (by rfl) (by rfl) (x_loadA (j := 0) (vs := [.slice A107 v105.1.Arena.Slots.length cp108, .slice A110 v105.1.Kids.length cp111]) ag79 (by rfl) (H.cells (i := 13) (by rfl)) (by rfl) (by rfl)) ?_
         refine RL_pure (by exact wn1 rfl rfl rfl rfl) (by rfl) (by rfl) (x_loadA (j := 0) (vs := [.slice A119 v117.1.Arena.Slots.length cp120, .slice A122 v117.1.Kids.length cp123]) ag79 (by rfl) (H.cells (i := 14) (by rfl)) (by rfl) (by rfl)) ?_
         obtain ⟨v184, hv183, hm⟩ := bind_some hm
         refine RL_cons (O_call (by exact wn1 rfl rfl rfl rfl) (by rfl) (by rfl) (x_callL (by rfl) (args := [.agg #[.slice A107 v105.1.Arena.Slots.length cp108, .slice A110 v105.1.Kids.length cp111], .agg #[.slice A119 v117.1.Arena.Slots.length cp120, .slice A122 v117.1.Kids.length cp123]]) (by rfl) (cf54 _ _)) (c54 okT K w181 v105.1 A107 cp108 A110 cp111 v117.1 A119 cp120 A122 cp123 (H.rd (i := 27) (by rfl)).any (H.rd (i := 28) (by rfl)).any (H.rd (i := 29) (by rfl)).any (H.rd (i := 30) (by rfl)).any v184 hv183) ?_)
         rintro e w185 ⟨rfl, H2⟩
         have H : Sep ok w w185 [GRB b17 A1 cp2 A5 cp6 a0, GRB b19 A9 cp10 A13 cp14 a1, HNB b21 a2, HNB b23 a3, .hole, .hole, GRB b47 A37 cp38 A42 cp43 v35, GRB b59 A53 cp54 A56 cp57 v51.1, HNB b61 v51.2.1, GRB b74 A68 cp69 A71 cp72 v66.1, HNB b76 v66.2.1, GRB b89 A83 cp84 A86 cp87 v81.1, GRB b101 A95 cp96 A98 cp99 v93.1, GRB b113 A107 cp108 A110 cp111 v105.1, GRB b125 A119 cp120 A122 cp123 v117.1, GRB b137 A131 cp132 A134 cp135 v129.1, GRB b149 A143 cp144 A146 cp147 v141.1, GRB b161 A155 cp156 A158 cp159 v153] [RDS A1 cp2 a0, RDK A5 cp6 a0, RDS A9 cp10 a1, RDK A13 cp14 a1, RDS A37 cp38 v35, RDK A42 cp43 v35, LTS w49 A1 cp2 a0, LTK w49 A5 cp6 a0, LTS w49 A9 cp10 a1, LTK w49 A13 cp14 a1, LTS w49 A37 cp38 v35, LTK w49 A42 cp43 v35, RE.sz w49.heap.size, FRS w49 A53 cp54 v51.1, FRK w49 A56 cp57 v51.1, RDS A53 cp54 v51.1, RDK A56 cp57 v51.1, RDS A68 cp69 v66.1, RDK A71 cp72 v66.1, FRS w49 A83 cp84 v81.1, FRK w49 A86 cp87 v81.1, RDS A83 cp84 v81.1, RDK A86 cp87 v81.1, RDS A95 cp96 v93.1, RDK A98 cp99 v93.1, FRS w49 A107 cp108 v105.1, FRK w49 A110 cp111 v105.1, RDS A107 cp108 v105.1, RDK A110 cp111 v105.1, RDS A119 cp120 v117.1, RDK A122 cp123 v117.1, FRS w49 A131 cp132 v129.1, FRK w49 A134 cp135 v129.1, RDS A131 cp132 v129.1, RDK A134 cp135 v129.1, RDS A143 cp144 v141.1, RDK A146 cp147 v141.1, FRS w49 A155 cp156 v153, FRK w49 A158 cp159 v153, RDS A155 cp156 v153, RDK A158 cp159 v153] := H.below H2.base
         clear H2
         refine ⟨_, rfl, ?_⟩
         show RL _ _ _ _ _ _ _
         refine RL_p (x_pick_t (v := .bool v184) (by rfl) (by rfl)) ?_
         refine RL_nil ?_
         exact ⟨⟨congrArg Value.bool (Option.some.inj hm), rfl, rfl, rfl, rfl, rfl, rfl, rfl, rfl, rfl, rfl, rfl, rfl, rfl, trivial⟩, H⟩
       ·rintro r' w' ⟨hA, H⟩
        obtain ⟨r186, rfl⟩ := regen _ hA; clear hA
        obtain ⟨w187, rfl⟩ : ∃ W : World, W = w' := ⟨_, rfl⟩
        show RL _ _ _ _ _ _ _
        refine RL_p (x_move (v := .bool b182) (by rfl)) ?_
        obtain ⟨b188, hmS, hm⟩ := bind_some hm
        refine RL_cut 4 (fun r' w' => Agr [(129, .bool b188), (5, .pointer (some ⟨b17, 0, none⟩)), (6, .pointer (some ⟨b19, 0, none⟩)), (11, .pointer (some ⟨b47, 0, none⟩)), (12, .pointer (some ⟨b59, 0, none⟩)), (18, .pointer (some ⟨b89, 0, none⟩)), (22, .pointer (some ⟨b113, 0, none⟩)), (26, .pointer (some ⟨b137, 0, none⟩)), (27, .int .i64 v129.2), (28, .pointer (some ⟨b149, 0, none⟩)), (29, .int .i64 v141.2), (30, .pointer (some ⟨b161, 0, none⟩))] r' ∧ Sep ok w w' [GRB b17 A1 cp2 A5 cp6 a0, GRB b19 A9 cp10 A13 cp14 a1, HNB b21 a2, HNB b23 a3, .hole, .hole, GRB b47 A37 cp38 A42 cp43 v35, GRB b59 A53 cp54 A56 cp57 v51.1, HNB b61 v51.2.1, GRB b74 A68 cp69 A71 cp72 v66.1, HNB b76 v66.2.1, GRB b89 A83 cp84 A86 cp87 v81.1, GRB b101 A95 cp96 A98 cp99 v93.1, GRB b113 A107 cp108 A110 cp111 v105.1, GRB b125 A119 cp120 A122 cp123 v117.1, GRB b137 A131 cp132 A134 cp135 v129.1, GRB b149 A143 cp144 A146 cp147 v141.1, GRB b161 A155 cp156 A158 cp159 v153] [RDS A1 cp2 a0, RDK A5 cp6 a0, RDS A9 cp10 a1, RDK A13 cp14 a1, RDS A37 cp38 v35, RDK A42 cp43 v35, LTS w49 A1 cp2 a0, LTK w49 A5 cp6 a0, LTS w49 A9 cp10 a1, LTK w49 A13 cp14 a1, LTS w49 A37 cp38 v35, LTK w49 A42 cp43 v35, RE.sz w49.heap.size, FRS w49 A53 cp54 v51.1, FRK w49 A56 cp57 v51.1, RDS A53 cp54 v51.1, RDK A56 cp57 v51.1, RDS A68 cp69 v66.1, RDK A71 cp72 v66.1, FRS w49 A83 cp84 v81.1, FRK w49 A86 cp87 v81.1, RDS A83 cp84 v81.1, RDK A86 cp87 v81.1, RDS A95 cp96 v93.1, RDK A98 cp99 v93.1, FRS w49 A107 cp108 v105.1, FRK w49 A110 cp111 v105.1, RDS A107 cp108 v105.1, RDK A110 cp111 v105.1, RDS A119 cp120 v117.1, RDK A122 cp123 v117.1, FRS w49 A131 cp132 v129.1, FRK w49 A134 cp135 v129.1, RDS A131 cp132 v129.1, RDK A134 cp135 v129.1, RDS A143 cp144 v141.1, RDK A146 cp147 v141.1, FRS w49 A155 cp156 v153, FRK w49 A158 cp159 v153, RDS A155 cp156 v153, RDK A158 cp159 v153]) ?_ ?_
        ·cases hbS : b182
         ·have hm := cond_f hbS hmS
          refine RL_cons (OpR_off (by exact wn2 rfl rfl rfl rfl) (by rfl) (by rfl) ?_)
          refine RL_cons (OpR_off (by exact wn2 rfl rfl rfl rfl) (by rfl) (by rfl) ?_)
          refine RL_cons (OpR_off (by exact wn2 rfl rfl rfl rfl) (by rfl) (by rfl) ?_)
          refine RL_p (x_pick_f (v := .bool false) (by rfl) (by rfl)) ?_
          refine RL_nil ?_
          exact ⟨⟨congrArg Value.bool (Option.some.inj hm), rfl, rfl, rfl, rfl, rfl, rfl, rfl, rfl, rfl, rfl, rfl, trivial⟩, H⟩
         ·have hm := cond_t hbS hmS
          refine RL_pure (by exact wn1 rfl rfl rfl rfl) (by rfl) (by rfl) (x_move (v := .int .i64 v105.2) (by rfl)) ?_
          refine RL_pure (by exact wn1 rfl rfl rfl rfl) (by rfl) (by rfl) (x_move (v := .int .i64 v117.2) (by rfl)) ?_
          refine RL_pure (by exact wn1 rfl rfl rfl rfl) (by rfl) (by rfl) (x_eql (by rfl) (by rfl)) ?_
          refine RL_p (x_pick_t (v := .bool (v105.2 == v117.2)) (by rfl) (by rfl)) ?_
          refine RL_nil ?_
          exact ⟨⟨congrArg Value.bool (Option.some.inj hm), rfl, rfl, rfl, rfl, rfl, rfl, rfl, rfl, rfl, rfl, rfl, trivial⟩, H⟩
        ·rintro r' w' ⟨hA, H⟩
         obtain ⟨r189, rfl⟩ := regen _ hA; clear hA
         obtain ⟨w190, rfl⟩ : ∃ W : World, W = w' := ⟨_, rfl⟩
         show RL _ _ _ _ _ _ _
         refine RL_p (x_move (v := .bool b188) (by rfl)) ?_
         obtain ⟨b191, hmS, hm⟩ := bind_some hm
         refine RL_cut 4 (fun r' w' => Agr [(134, .bool b191), (5, .pointer (some ⟨b17, 0, none⟩)), (6, .pointer (some ⟨b19, 0, none⟩)), (11, .pointer (some ⟨b47, 0, none⟩)), (12, .pointer (some ⟨b59, 0, none⟩)), (18, .pointer (some ⟨b89, 0, none⟩)), (22, .pointer (some ⟨b113, 0, none⟩)), (26, .pointer (some ⟨b137, 0, none⟩)), (27, .int .i64 v129.2), (29, .int .i64 v141.2), (30, .pointer (some ⟨b161, 0, none⟩))] r' ∧ Sep ok w w' [GRB b17 A1 cp2 A5 cp6 a0, GRB b19 A9 cp10 A13 cp14 a1, HNB b21 a2, HNB b23 a3, .hole, .hole, GRB b47 A37 cp38 A42 cp43 v35, GRB b59 A53 cp54 A56 cp57 v51.1, HNB b61 v51.2.1, GRB b74 A68 cp69 A71 cp72 v66.1, HNB b76 v66.2.1, GRB b89 A83 cp84 A86 cp87 v81.1, GRB b101 A95 cp96 A98 cp99 v93.1, GRB b113 A107 cp108 A110 cp111 v105.1, GRB b125 A119 cp120 A122 cp123 v117.1, GRB b137 A131 cp132 A134 cp135 v129.1, GRB b149 A143 cp144 A146 cp147 v141.1, GRB b161 A155 cp156 A158 cp159 v153] [RDS A1 cp2 a0, RDK A5 cp6 a0, RDS A9 cp10 a1, RDK A13 cp14 a1, RDS A37 cp38 v35, RDK A42 cp43 v35, LTS w49 A1 cp2 a0, LTK w49 A5 cp6 a0, LTS w49 A9 cp10 a1, LTK w49 A13 cp14 a1, LTS w49 A37 cp38 v35, LTK w49 A42 cp43 v35, RE.sz w49.heap.size, FRS w49 A53 cp54 v51.1, FRK w49 A56 cp57 v51.1, RDS A53 cp54 v51.1, RDK A56 cp57 v51.1, RDS A68 cp69 v66.1, RDK A71 cp72 v66.1, FRS w49 A83 cp84 v81.1, FRK w49 A86 cp87 v81.1, RDS A83 cp84 v81.1, RDK A86 cp87 v81.1, RDS A95 cp96 v93.1, RDK A98 cp99 v93.1, FRS w49 A107 cp108 v105.1, FRK w49 A110 cp111 v105.1, RDS A107 cp108 v105.1, RDK A110 cp111 v105.1, RDS A119 cp120 v117.1, RDK A122 cp123 v117.1, FRS w49 A131 cp132 v129.1, FRK w49 A134 cp135 v129.1, RDS A131 cp132 v129.1, RDK A134 cp135 v129.1, RDS A143 cp144 v141.1, RDK A146 cp147 v141.1, FRS w49 A155 cp156 v153, FRK w49 A158 cp159 v153, RDS A155 cp156 v153, RDK A158 cp159 v153]) ?_ ?_
         ·cases hbS : b188
          ·have hm := cond_f hbS hmS
           refine RL_cons (OpR_off (by exact wn2 rfl rfl rfl rfl) (by rfl) (by rfl) ?_)
           refine RL_cons (OpR_off (by exact wn2 rfl rfl rfl rfl) (by rfl) (by rfl) ?_)
           refine RL_cons (OpR_off (by exact wn2 rfl rfl rfl rfl) (by rfl) (by rfl) ?_)
           refine RL_p (x_pick_f (v := .bool false) (by rfl) (by rfl)) ?_
           refine RL_nil ?_
           exact ⟨⟨congrArg Value.bool (Option.some.inj hm), rfl, rfl, rfl, rfl, rfl, rfl, rfl, rfl, rfl, rfl, trivial⟩, H⟩
          ·have hm := cond_t hbS hmS
           refine RL_pure (by exact wn1 rfl rfl rfl rfl) (by rfl) (by rfl) (x_loadA (j := 0) (vs := [.slice A131 v129.1.Arena.Slots.length cp132, .slice A134 v129.1.Kids.length cp135]) ag79 (by rfl) (H.cells (i := 15) (by rfl)) (by rfl) (by rfl)) ?_
           refine RL_pure (by exact wn1 rfl rfl rfl rfl) (by rfl) (by rfl) (x_loadA (j := 0) (vs := [.slice A143 v141.1.Arena.Slots.length cp144, .slice A146 v141.1.Kids.length cp147]) ag79 (by rfl) (H.cells (i := 16) (by rfl)) (by rfl) (by rfl)) ?_
           obtain ⟨v193, hv192, hm⟩ := bind_some hm
           refine RL_cons (O_call (by exact wn1 rfl rfl rfl rfl) (by rfl) (by rfl) (x_callL (by rfl) (args := [.agg #[.slice A131 v129.1.Arena.Slots.length cp132, .slice A134 v129.1.Kids.length cp135], .agg #[.slice A143 v141.1.Arena.Slots.length cp144, .slice A146 v141.1.Kids.length cp147]]) (by rfl) (cf54 _ _)) (c54 okT K w190 v129.1 A131 cp132 A134 cp135 v141.1 A143 cp144 A146 cp147 (H.rd (i := 33) (by rfl)).any (H.rd (i := 34) (by rfl)).any (H.rd (i := 35) (by rfl)).any (H.rd (i := 36) (by rfl)).any v193 hv192) ?_)
           rintro e w194 ⟨rfl, H2⟩
           have H : Sep ok w w194 [GRB b17 A1 cp2 A5 cp6 a0, GRB b19 A9 cp10 A13 cp14 a1, HNB b21 a2, HNB b23 a3, .hole, .hole, GRB b47 A37 cp38 A42 cp43 v35, GRB b59 A53 cp54 A56 cp57 v51.1, HNB b61 v51.2.1, GRB b74 A68 cp69 A71 cp72 v66.1, HNB b76 v66.2.1, GRB b89 A83 cp84 A86 cp87 v81.1, GRB b101 A95 cp96 A98 cp99 v93.1, GRB b113 A107 cp108 A110 cp111 v105.1, GRB b125 A119 cp120 A122 cp123 v117.1, GRB b137 A131 cp132 A134 cp135 v129.1, GRB b149 A143 cp144 A146 cp147 v141.1, GRB b161 A155 cp156 A158 cp159 v153] [RDS A1 cp2 a0, RDK A5 cp6 a0, RDS A9 cp10 a1, RDK A13 cp14 a1, RDS A37 cp38 v35, RDK A42 cp43 v35, LTS w49 A1 cp2 a0, LTK w49 A5 cp6 a0, LTS w49 A9 cp10 a1, LTK w49 A13 cp14 a1, LTS w49 A37 cp38 v35, LTK w49 A42 cp43 v35, RE.sz w49.heap.size, FRS w49 A53 cp54 v51.1, FRK w49 A56 cp57 v51.1, RDS A53 cp54 v51.1, RDK A56 cp57 v51.1, RDS A68 cp69 v66.1, RDK A71 cp72 v66.1, FRS w49 A83 cp84 v81.1, FRK w49 A86 cp87 v81.1, RDS A83 cp84 v81.1, RDK A86 cp87 v81.1, RDS A95 cp96 v93.1, RDK A98 cp99 v93.1, FRS w49 A107 cp108 v105.1, FRK w49 A110 cp111 v105.1, RDS A107 cp108 v105.1, RDK A110 cp111 v105.1, RDS A119 cp120 v117.1, RDK A122 cp123 v117.1, FRS w49 A131 cp132 v129.1, FRK w49 A134 cp135 v129.1, RDS A131 cp132 v129.1, RDK A134 cp135 v129.1, RDS A143 cp144 v141.1, RDK A146 cp147 v141.1, FRS w49 A155 cp156 v153, FRK w49 A158 cp159 v153, RDS A155 cp156 v153, RDK A158 cp159 v153] := H.below H2.base
           clear H2
           refine ⟨_, rfl, ?_⟩
           show RL _ _ _ _ _ _ _
           refine RL_p (x_pick_t (v := .bool v193) (by rfl) (by rfl)) ?_
           refine RL_nil ?_
           exact ⟨⟨congrArg Value.bool (Option.some.inj hm), rfl, rfl, rfl, rfl, rfl, rfl, rfl, rfl, rfl, rfl, trivial⟩, H⟩
         ·rintro r' w' ⟨hA, H⟩
          obtain ⟨r195, rfl⟩ := regen _ hA; clear hA
          obtain ⟨w196, rfl⟩ : ∃ W : World, W = w' := ⟨_, rfl⟩
          show RL _ _ _ _ _ _ _
          refine RL_p (x_move (v := .bool b191) (by rfl)) ?_
          obtain ⟨b197, hmS, hm⟩ := bind_some hm
          refine RL_cut 4 (fun r' w' => Agr [(139, .bool b197), (5, .pointer (some ⟨b17, 0, none⟩)), (6, .pointer (some ⟨b19, 0, none⟩)), (11, .pointer (some ⟨b47, 0, none⟩)), (12, .pointer (some ⟨b59, 0, none⟩)), (18, .pointer (some ⟨b89, 0, none⟩)), (22, .pointer (some ⟨b113, 0, none⟩)), (26, .pointer (some ⟨b137, 0, none⟩)), (30, .pointer (some ⟨b161, 0, none⟩))] r' ∧ Sep ok w w' [GRB b17 A1 cp2 A5 cp6 a0, GRB b19 A9 cp10 A13 cp14 a1, HNB b21 a2, HNB b23 a3, .hole, .hole, GRB b47 A37 cp38 A42 cp43 v35, GRB b59 A53 cp54 A56 cp57 v51.1, HNB b61 v51.2.1, GRB b74 A68 cp69 A71 cp72 v66.1, HNB b76 v66.2.1, GRB b89 A83 cp84 A86 cp87 v81.1, GRB b101 A95 cp96 A98 cp99 v93.1, GRB b113 A107 cp108 A110 cp111 v105.1, GRB b125 A119 cp120 A122 cp123 v117.1, GRB b137 A131 cp132 A134 cp135 v129.1, GRB b149 A143 cp144 A146 cp147 v141.1, GRB b161 A155 cp156 A158 cp159 v153] [RDS A1 cp2 a0, RDK A5 cp6 a0, RDS A9 cp10 a1, RDK A13 cp14 a1, RDS A37 cp38 v35, RDK A42 cp43 v35, LTS w49 A1 cp2 a0, LTK w49 A5 cp6 a0, LTS w49 A9 cp10 a1, LTK w49 A13 cp14 a1, LTS w49 A37 cp38 v35, LTK w49 A42 cp43 v35, RE.sz w49.heap.size, FRS w49 A53 cp54 v51.1, FRK w49 A56 cp57 v51.1, RDS A53 cp54 v51.1, RDK A56 cp57 v51.1, RDS A68 cp69 v66.1, RDK A71 cp72 v66.1, FRS w49 A83 cp84 v81.1, FRK w49 A86 cp87 v81.1, RDS A83 cp84 v81.1, RDK A86 cp87 v81.1, RDS A95 cp96 v93.1, RDK A98 cp99 v93.1, FRS w49 A107 cp108 v105.1, FRK w49 A110 cp111 v105.1, RDS A107 cp108 v105.1, RDK A110 cp111 v105.1, RDS A119 cp120 v117.1, RDK A122 cp123 v117.1, FRS w49 A131 cp132 v129.1, FRK w49 A134 cp135 v129.1, RDS A131 cp132 v129.1, RDK A134 cp135 v129.1, RDS A143 cp144 v141.1, RDK A146 cp147 v141.1, FRS w49 A155 cp156 v153, FRK w49 A158 cp159 v153, RDS A155 cp156 v153, RDK A158 cp159 v153]) ?_ ?_
          ·cases hbS : b191
           ·have hm := cond_f hbS hmS
            refine RL_cons (OpR_off (by exact wn2 rfl rfl rfl rfl) (by rfl) (by rfl) ?_)
            refine RL_cons (OpR_off (by exact wn2 rfl rfl rfl rfl) (by rfl) (by rfl) ?_)
            refine RL_cons (OpR_off (by exact wn2 rfl rfl rfl rfl) (by rfl) (by rfl) ?_)
            refine RL_p (x_pick_f (v := .bool false) (by rfl) (by rfl)) ?_
            refine RL_nil ?_
            exact ⟨⟨congrArg Value.bool (Option.some.inj hm), rfl, rfl, rfl, rfl, rfl, rfl, rfl, rfl, trivial⟩, H⟩
           ·have hm := cond_t hbS hmS
            refine RL_pure (by exact wn1 rfl rfl rfl rfl) (by rfl) (by rfl) (x_move (v := .int .i64 v129.2) (by rfl)) ?_
            refine RL_pure (by exact wn1 rfl rfl rfl rfl) (by rfl) (by rfl) (x_move (v := .int .i64 v141.2) (by rfl)) ?_
            refine RL_pure (by exact wn1 rfl rfl rfl rfl) (by rfl) (by rfl) (x_eql (by rfl) (by rfl)) ?_
            refine RL_p (x_pick_t (v := .bool (v129.2 == v141.2)) (by rfl) (by rfl)) ?_
            refine RL_nil ?_
            exact ⟨⟨congrArg Value.bool (Option.some.inj hm), rfl, rfl, rfl, rfl, rfl, rfl, rfl, rfl, trivial⟩, H⟩
          ·rintro r' w' ⟨hA, H⟩
           obtain ⟨r198, rfl⟩ := regen _ hA; clear hA
           obtain ⟨w199, rfl⟩ : ∃ W : World, W = w' := ⟨_, rfl⟩
           show RL _ _ _ _ _ _ _
           refine RL_p (x_assign (v := .bool b197) (by rfl)) ?_
           refine RL_nil ?_
           refine W_seq ?_
           refine W_draw [.take 0, .take 2, .run 1, .run 3, .free 4, .free 5, .take 6, .take 7, .run 8, .free 9, .free 10, .take 11, .take 12, .take 14, .take 15, .run 13, .run 16, .free 17, .free 18, .free 19, .take 20, .take 21, .run 22, .free 23, .free 24] (fun wS => Sep ok w wS [GRB b17 A1 cp2 A5 cp6 a0, GRB b19 A9 cp10 A13 cp14 a1, HNB b21 a2, HNB b23 a3, .hole, .hole, GRB b47 A37 cp38 A42 cp43 v35, GRB b59 A53 cp54 A56 cp57 v51.1, HNB b61 v51.2.1, GRB b74 A68 cp69 A71 cp72 v66.1, HNB b76 v66.2.1, GRB b89 A83 cp84 A86 cp87 v81.1, GRB b101 A95 cp96 A98 cp99 v93.1, GRB b113 A107 cp108 A110 cp111 v105.1, GRB b125 A119 cp120 A122 cp123 v117.1, GRB b137 A131 cp132 A134 cp135 v129.1, GRB b149 A143 cp144 A146 cp147 v141.1, GRB b161 A155 cp156 A158 cp159 v153] [RDS A1 cp2 a0, RDK A5 cp6 a0, RDS A9 cp10 a1, RDK A13 cp14 a1, RDS A37 cp38 v35, RDK A42 cp43 v35, LTS w49 A1 cp2 a0, LTK w49 A5 cp6 a0, LTS w49 A9 cp10 a1, LTK w49 A13 cp14 a1, LTS w49 A37 cp38 v35, LTK w49 A42 cp43 v35, RE.sz w49.heap.size, FRS w49 A53 cp54 v51.1, FRK w49 A56 cp57 v51.1, RDS A53 cp54 v51.1, RDK A56 cp57 v51.1, RDS A68 cp69 v66.1, RDK A71 cp72 v66.1, FRS w49 A83 cp84 v81.1, FRK w49 A86 cp87 v81.1, RDS A83 cp84 v81.1, RDK A86 cp87 v81.1, RDS A95 cp96 v93.1, RDK A98 cp99 v93.1, FRS w49 A107 cp108 v105.1, FRK w49 A110 cp111 v105.1, RDS A107 cp108 v105.1, RDK A110 cp111 v105.1, RDS A119 cp120 v117.1, RDK A122 cp123 v117.1, FRS w49 A131 cp132 v129.1, FRK w49 A134 cp135 v129.1, RDS A131 cp132 v129.1, RDK A134 cp135 v129.1, RDS A143 cp144 v141.1, RDK A146 cp147 v141.1, FRS w49 A155 cp156 v153, FRK w49 A158 cp159 v153, RDS A155 cp156 v153, RDK A158 cp159 v153]) [] [4, 5, 9, 10, 17, 18, 19, 23, 24] mixed0 (by kernel_rfl) (by kernel_rfl) (by kernel_rfl) (by rfl) (by exact H.drew) ?_
           obtain ⟨w200, hW⟩ : ∃ W : World, W = { w199 with drawn := w199.drawn + 1 } := ⟨_, rfl⟩
           rw [← hW]
           have H : Sep ok w w200 [GRB b17 A1 cp2 A5 cp6 a0, GRB b19 A9 cp10 A13 cp14 a1, HNB b21 a2, HNB b23 a3, .hole, .hole, GRB b47 A37 cp38 A42 cp43 v35, GRB b59 A53 cp54 A56 cp57 v51.1, HNB b61 v51.2.1, GRB b74 A68 cp69 A71 cp72 v66.1, HNB b76 v66.2.1, GRB b89 A83 cp84 A86 cp87 v81.1, GRB b101 A95 cp96 A98 cp99 v93.1, GRB b113 A107 cp108 A110 cp111 v105.1, GRB b125 A119 cp120 A122 cp123 v117.1, GRB b137 A131 cp132 A134 cp135 v129.1, GRB b149 A143 cp144 A146 cp147 v141.1, GRB b161 A155 cp156 A158 cp159 v153] [RDS A1 cp2 a0, RDK A5 cp6 a0, RDS A9 cp10 a1, RDK A13 cp14 a1, RDS A37 cp38 v35, RDK A42 cp43 v35, LTS w49 A1 cp2 a0, LTK w49 A5 cp6 a0, LTS w49 A9 cp10 a1, LTK w49 A13 cp14 a1, LTS w49 A37 cp38 v35, LTK w49 A42 cp43 v35, RE.sz w49.heap.size, FRS w49 A53 cp54 v51.1, FRK w49 A56 cp57 v51.1, RDS A53 cp54 v51.1, RDK A56 cp57 v51.1, RDS A68 cp69 v66.1, RDK A71 cp72 v66.1, FRS w49 A83 cp84 v81.1, FRK w49 A86 cp87 v81.1, RDS A83 cp84 v81.1, RDK A86 cp87 v81.1, RDS A95 cp96 v93.1, RDK A98 cp99 v93.1, FRS w49 A107 cp108 v105.1, FRK w49 A110 cp111 v105.1, RDS A107 cp108 v105.1, RDK A110 cp111 v105.1, RDS A119 cp120 v117.1, RDK A122 cp123 v117.1, FRS w49 A131 cp132 v129.1, FRK w49 A134 cp135 v129.1, RDS A131 cp132 v129.1, RDK A134 cp135 v129.1, RDS A143 cp144 v141.1, RDK A146 cp147 v141.1, FRS w49 A155 cp156 v153, FRK w49 A158 cp159 v153, RDS A155 cp156 v153, RDK A158 cp159 v153] := by rw [hW]; exact H.drew
           clear hW
           refine PR_take (by rfl) (by rfl) (by rfl) (by exact wn0 rfl) (fun wS (H : Sep ok w wS [GRB b17 A1 cp2 A5 cp6 a0, GRB b19 A9 cp10 A13 cp14 a1, HNB b21 a2, HNB b23 a3, .hole, .hole, GRB b47 A37 cp38 A42 cp43 v35, GRB b59 A53 cp54 A56 cp57 v51.1, HNB b61 v51.2.1, GRB b74 A68 cp69 A71 cp72 v66.1, HNB b76 v66.2.1, GRB b89 A83 cp84 A86 cp87 v81.1, GRB b101 A95 cp96 A98 cp99 v93.1, GRB b113 A107 cp108 A110 cp111 v105.1, GRB b125 A119 cp120 A122 cp123 v117.1, GRB b137 A131 cp132 A134 cp135 v129.1, GRB b149 A143 cp144 A146 cp147 v141.1, GRB b161 A155 cp156 A158 cp159 v153] [RDS A1 cp2 a0, RDK A5 cp6 a0, RDS A9 cp10 a1, RDK A13 cp14 a1, RDS A37 cp38 v35, RDK A42 cp43 v35, LTS w49 A1 cp2 a0, LTK w49 A5 cp6 a0, LTS w49 A9 cp10 a1, LTK w49 A13 cp14 a1, LTS w49 A37 cp38 v35, LTK w49 A42 cp43 v35, RE.sz w49.heap.size, FRS w49 A53 cp54 v51.1, FRK w49 A56 cp57 v51.1, RDS A53 cp54 v51.1, RDK A56 cp57 v51.1, RDS A68 cp69 v66.1, RDK A71 cp72 v66.1, FRS w49 A83 cp84 v81.1, FRK w49 A86 cp87 v81.1, RDS A83 cp84 v81.1, RDK A86 cp87 v81.1, RDS A95 cp96 v93.1, RDK A98 cp99 v93.1, FRS w49 A107 cp108 v105.1, FRK w49 A110 cp111 v105.1, RDS A107 cp108 v105.1, RDK A110 cp111 v105.1, RDS A119 cp120 v117.1, RDK A122 cp123 v117.1, FRS w49 A131 cp132 v129.1, FRK w49 A134 cp135 v129.1, RDS A131 cp132 v129.1, RDK A134 cp135 v129.1, RDS A143 cp144 v141.1, RDK A146 cp147 v141.1, FRS w49 A155 cp156 v153, FRK w49 A158 cp159 v153, RDS A155 cp156 v153, RDK A158 cp159 v153]) => (x_loadA (j := 0) (vs := [.slice A37 v35.Arena.Slots.length cp38, .slice A42 v35.Kids.length cp43]) ag79 (by rfl) (H.cells (i := 6) (by rfl)) (by rfl) (by rfl))) ?_
           refine PR_take (by rfl) (by rfl) (by rfl) (by exact wn0 rfl) (fun wS (H : Sep ok w wS [GRB b17 A1 cp2 A5 cp6 a0, GRB b19 A9 cp10 A13 cp14 a1, HNB b21 a2, HNB b23 a3, .hole, .hole, GRB b47 A37 cp38 A42 cp43 v35, GRB b59 A53 cp54 A56 cp57 v51.1, HNB b61 v51.2.1, GRB b74 A68 cp69 A71 cp72 v66.1, HNB b76 v66.2.1, GRB b89 A83 cp84 A86 cp87 v81.1, GRB b101 A95 cp96 A98 cp99 v93.1, GRB b113 A107 cp108 A110 cp111 v105.1, GRB b125 A119 cp120 A122 cp123 v117.1, GRB b137 A131 cp132 A134 cp135 v129.1, GRB b149 A143 cp144 A146 cp147 v141.1, GRB b161 A155 cp156 A158 cp159 v153] [RDS A1 cp2 a0, RDK A5 cp6 a0, RDS A9 cp10 a1, RDK A13 cp14 a1, RDS A37 cp38 v35, RDK A42 cp43 v35, LTS w49 A1 cp2 a0, LTK w49 A5 cp6 a0, LTS w49 A9 cp10 a1, LTK w49 A13 cp14 a1, LTS w49 A37 cp38 v35, LTK w49 A42 cp43 v35, RE.sz w49.heap.size, FRS w49 A53 cp54 v51.1, FRK w49 A56 cp57 v51.1, RDS A53 cp54 v51.1, RDK A56 cp57 v51.1, RDS A68 cp69 v66.1, RDK A71 cp72 v66.1, FRS w49 A83 cp84 v81.1, FRK w49 A86 cp87 v81.1, RDS A83 cp84 v81.1, RDK A86 cp87 v81.1, RDS A95 cp96 v93.1, RDK A98 cp99 v93.1, FRS w49 A107 cp108 v105.1, FRK w49 A110 cp111 v105.1, RDS A107 cp108 v105.1, RDK A110 cp111 v105.1, RDS A119 cp120 v117.1, RDK A122 cp123 v117.1, FRS w49 A131 cp132 v129.1, FRK w49 A134 cp135 v129.1, RDS A131 cp132 v129.1, RDK A134 cp135 v129.1, RDS A143 cp144 v141.1, RDK A146 cp147 v141.1, FRS w49 A155 cp156 v153, FRK w49 A158 cp159 v153, RDS A155 cp156 v153, RDK A158 cp159 v153]) => (x_loadA (j := 0) (vs := [.slice A1 a0.Arena.Slots.length cp2, .slice A5 a0.Kids.length cp6]) ag79 (by rfl) (H.cells (i := 0) (by rfl)) (by rfl) (by rfl))) ?_
           obtain ⟨v202, hv201, hm⟩ := bind_some hm
           refine PR_run (by rfl) (O_call (by exact wn0 rfl) (by rfl) (by rfl) (x_callL (by rfl) (args := [.agg #[.slice A37 v35.Arena.Slots.length cp38, .slice A42 v35.Kids.length cp43]]) (by rfl) (cf43 _ _)) (c43 okT K w200 v35 A37 cp38 A42 cp43 (H.rd (i := 4) (by rfl)).any (H.rd (i := 5) (by rfl)).any v202 hv201) ?_)
           rintro e w203 ⟨rfl, H2⟩
           have H : Sep ok w w203 [GRB b17 A1 cp2 A5 cp6 a0, GRB b19 A9 cp10 A13 cp14 a1, HNB b21 a2, HNB b23 a3, .hole, .hole, GRB b47 A37 cp38 A42 cp43 v35, GRB b59 A53 cp54 A56 cp57 v51.1, HNB b61 v51.2.1, GRB b74 A68 cp69 A71 cp72 v66.1, HNB b76 v66.2.1, GRB b89 A83 cp84 A86 cp87 v81.1, GRB b101 A95 cp96 A98 cp99 v93.1, GRB b113 A107 cp108 A110 cp111 v105.1, GRB b125 A119 cp120 A122 cp123 v117.1, GRB b137 A131 cp132 A134 cp135 v129.1, GRB b149 A143 cp144 A146 cp147 v141.1, GRB b161 A155 cp156 A158 cp159 v153] [RDS A1 cp2 a0, RDK A5 cp6 a0, RDS A9 cp10 a1, RDK A13 cp14 a1, RDS A37 cp38 v35, RDK A42 cp43 v35, LTS w49 A1 cp2 a0, LTK w49 A5 cp6 a0, LTS w49 A9 cp10 a1, LTK w49 A13 cp14 a1, LTS w49 A37 cp38 v35, LTK w49 A42 cp43 v35, RE.sz w49.heap.size, FRS w49 A53 cp54 v51.1, FRK w49 A56 cp57 v51.1, RDS A53 cp54 v51.1, RDK A56 cp57 v51.1, RDS A68 cp69 v66.1, RDK A71 cp72 v66.1, FRS w49 A83 cp84 v81.1, FRK w49 A86 cp87 v81.1, RDS A83 cp84 v81.1, RDK A86 cp87 v81.1, RDS A95 cp96 v93.1, RDK A98 cp99 v93.1, FRS w49 A107 cp108 v105.1, FRK w49 A110 cp111 v105.1, RDS A107 cp108 v105.1, RDK A110 cp111 v105.1, RDS A119 cp120 v117.1, RDK A122 cp123 v117.1, FRS w49 A131 cp132 v129.1, FRK w49 A134 cp135 v129.1, RDS A131 cp132 v129.1, RDK A134 cp135 v129.1, RDS A143 cp144 v141.1, RDK A146 cp147 v141.1, FRS w49 A155 cp156 v153, FRK w49 A158 cp159 v153, RDS A155 cp156 v153, RDK A158 cp159 v153] := H.below H2.base
           clear H2
           refine ⟨_, rfl, H, ?_⟩
           show PR _ _ _ _ _ _ _ _
           obtain ⟨v205, hv204, hm⟩ := bind_some hm
           refine PR_run (by rfl) (O_call (by exact wn0 rfl) (by rfl) (by rfl) (x_callL (by rfl) (args := [.agg #[.slice A1 a0.Arena.Slots.length cp2, .slice A5 a0.Kids.length cp6]]) (by rfl) (cf55 _ _)) (c55 okT K w203 a0 A1 cp2 A5 cp6 (H.rd (i := 0) (by rfl)).any (H.rd (i := 1) (by rfl)).any v205 hv204) ?_)
           rintro e w206 ⟨rfl, H2⟩
           have H : Sep ok w w206 [GRB b17 A1 cp2 A5 cp6 a0, GRB b19 A9 cp10 A13 cp14 a1, HNB b21 a2, HNB b23 a3, .hole, .hole, GRB b47 A37 cp38 A42 cp43 v35, GRB b59 A53 cp54 A56 cp57 v51.1, HNB b61 v51.2.1, GRB b74 A68 cp69 A71 cp72 v66.1, HNB b76 v66.2.1, GRB b89 A83 cp84 A86 cp87 v81.1, GRB b101 A95 cp96 A98 cp99 v93.1, GRB b113 A107 cp108 A110 cp111 v105.1, GRB b125 A119 cp120 A122 cp123 v117.1, GRB b137 A131 cp132 A134 cp135 v129.1, GRB b149 A143 cp144 A146 cp147 v141.1, GRB b161 A155 cp156 A158 cp159 v153] [RDS A1 cp2 a0, RDK A5 cp6 a0, RDS A9 cp10 a1, RDK A13 cp14 a1, RDS A37 cp38 v35, RDK A42 cp43 v35, LTS w49 A1 cp2 a0, LTK w49 A5 cp6 a0, LTS w49 A9 cp10 a1, LTK w49 A13 cp14 a1, LTS w49 A37 cp38 v35, LTK w49 A42 cp43 v35, RE.sz w49.heap.size, FRS w49 A53 cp54 v51.1, FRK w49 A56 cp57 v51.1, RDS A53 cp54 v51.1, RDK A56 cp57 v51.1, RDS A68 cp69 v66.1, RDK A71 cp72 v66.1, FRS w49 A83 cp84 v81.1, FRK w49 A86 cp87 v81.1, RDS A83 cp84 v81.1, RDK A86 cp87 v81.1, RDS A95 cp96 v93.1, RDK A98 cp99 v93.1, FRS w49 A107 cp108 v105.1, FRK w49 A110 cp111 v105.1, RDS A107 cp108 v105.1, RDK A110 cp111 v105.1, RDS A119 cp120 v117.1, RDK A122 cp123 v117.1, FRS w49 A131 cp132 v129.1, FRK w49 A134 cp135 v129.1, RDS A131 cp132 v129.1, RDK A134 cp135 v129.1, RDS A143 cp144 v141.1, RDK A146 cp147 v141.1, FRS w49 A155 cp156 v153, FRK w49 A158 cp159 v153, RDS A155 cp156 v153, RDK A158 cp159 v153] := H.below H2.base
           clear H2
           refine ⟨_, rfl, H, ?_⟩
           show PR _ _ _ _ _ _ _ _
           refine PR_free (by rfl) (by rfl) (by rfl) (by exact wn0 rfl) (fun wS => (x_eql (by rfl) (by rfl))) ?_
           refine PR_free (by rfl) (by rfl) (by rfl) (by exact wn0 rfl) (fun wS => (x_move (v := .bool (v202 == v205)) (by rfl))) ?_
           obtain ⟨b207, hmS, hm⟩ := bind_some hm
           refine PR_cut 4 (fun r' w' => Agr [(149, .bool b207), (5, .pointer (some ⟨b17, 0, none⟩)), (6, .pointer (some ⟨b19, 0, none⟩)), (11, .pointer (some ⟨b47, 0, none⟩)), (12, .pointer (some ⟨b59, 0, none⟩)), (18, .pointer (some ⟨b89, 0, none⟩)), (22, .pointer (some ⟨b113, 0, none⟩)), (26, .pointer (some ⟨b137, 0, none⟩)), (30, .pointer (some ⟨b161, 0, none⟩)), (31, .bool b197)] r' ∧ Sep ok w w' [GRB b17 A1 cp2 A5 cp6 a0, GRB b19 A9 cp10 A13 cp14 a1, HNB b21 a2, HNB b23 a3, .hole, .hole, GRB b47 A37 cp38 A42 cp43 v35, GRB b59 A53 cp54 A56 cp57 v51.1, HNB b61 v51.2.1, GRB b74 A68 cp69 A71 cp72 v66.1, HNB b76 v66.2.1, GRB b89 A83 cp84 A86 cp87 v81.1, GRB b101 A95 cp96 A98 cp99 v93.1, GRB b113 A107 cp108 A110 cp111 v105.1, GRB b125 A119 cp120 A122 cp123 v117.1, GRB b137 A131 cp132 A134 cp135 v129.1, GRB b149 A143 cp144 A146 cp147 v141.1, GRB b161 A155 cp156 A158 cp159 v153] [RDS A1 cp2 a0, RDK A5 cp6 a0, RDS A9 cp10 a1, RDK A13 cp14 a1, RDS A37 cp38 v35, RDK A42 cp43 v35, LTS w49 A1 cp2 a0, LTK w49 A5 cp6 a0, LTS w49 A9 cp10 a1, LTK w49 A13 cp14 a1, LTS w49 A37 cp38 v35, LTK w49 A42 cp43 v35, RE.sz w49.heap.size, FRS w49 A53 cp54 v51.1, FRK w49 A56 cp57 v51.1, RDS A53 cp54 v51.1, RDK A56 cp57 v51.1, RDS A68 cp69 v66.1, RDK A71 cp72 v66.1, FRS w49 A83 cp84 v81.1, FRK w49 A86 cp87 v81.1, RDS A83 cp84 v81.1, RDK A86 cp87 v81.1, RDS A95 cp96 v93.1, RDK A98 cp99 v93.1, FRS w49 A107 cp108 v105.1, FRK w49 A110 cp111 v105.1, RDS A107 cp108 v105.1, RDK A110 cp111 v105.1, RDS A119 cp120 v117.1, RDK A122 cp123 v117.1, FRS w49 A131 cp132 v129.1, FRK w49 A134 cp135 v129.1, RDS A131 cp132 v129.1, RDK A134 cp135 v129.1, RDS A143 cp144 v141.1, RDK A146 cp147 v141.1, FRS w49 A155 cp156 v153, FRK w49 A158 cp159 v153, RDS A155 cp156 v153, RDK A158 cp159 v153]) ?_ ?_
           ·cases hbS : (v202 == v205)
            ·have hm := cond_f hbS hmS
             refine PR_off (by rfl) (by rfl) (by rfl) (by exact wn2 rfl rfl rfl rfl) ?_
             refine PR_off (by rfl) (by rfl) (by rfl) (by exact wn2 rfl rfl rfl rfl) ?_
             refine PR_run (by rfl) (OpR_off (by exact wn2 rfl rfl rfl rfl) (by rfl) (by rfl) ⟨H, ?_⟩)
             refine PR_free (by rfl) (by rfl) (by rfl) (by exact wn0 rfl) (fun wS => (x_pick_f (v := .bool false) (by rfl) (by rfl))) ?_
             refine PR_nil ?_
             exact ⟨⟨congrArg Value.bool (Option.some.inj hm), rfl, rfl, rfl, rfl, rfl, rfl, rfl, rfl, rfl, trivial⟩, H⟩
            ·have hm := cond_t hbS hmS
             refine PR_take (by rfl) (by rfl) (by rfl) (by exact wn1 rfl rfl rfl rfl) (fun wS (H : Sep ok w wS [GRB b17 A1 cp2 A5 cp6 a0, GRB b19 A9 cp10 A13 cp14 a1, HNB b21 a2, HNB b23 a3, .hole, .hole, GRB b47 A37 cp38 A42 cp43 v35, GRB b59 A53 cp54 A56 cp57 v51.1, HNB b61 v51.2.1, GRB b74 A68 cp69 A71 cp72 v66.1, HNB b76 v66.2.1, GRB b89 A83 cp84 A86 cp87 v81.1, GRB b101 A95 cp96 A98 cp99 v93.1, GRB b113 A107 cp108 A110 cp111 v105.1, GRB b125 A119 cp120 A122 cp123 v117.1, GRB b137 A131 cp132 A134 cp135 v129.1, GRB b149 A143 cp144 A146 cp147 v141.1, GRB b161 A155 cp156 A158 cp159 v153] [RDS A1 cp2 a0, RDK A5 cp6 a0, RDS A9 cp10 a1, RDK A13 cp14 a1, RDS A37 cp38 v35, RDK A42 cp43 v35, LTS w49 A1 cp2 a0, LTK w49 A5 cp6 a0, LTS w49 A9 cp10 a1, LTK w49 A13 cp14 a1, LTS w49 A37 cp38 v35, LTK w49 A42 cp43 v35, RE.sz w49.heap.size, FRS w49 A53 cp54 v51.1, FRK w49 A56 cp57 v51.1, RDS A53 cp54 v51.1, RDK A56 cp57 v51.1, RDS A68 cp69 v66.1, RDK A71 cp72 v66.1, FRS w49 A83 cp84 v81.1, FRK w49 A86 cp87 v81.1, RDS A83 cp84 v81.1, RDK A86 cp87 v81.1, RDS A95 cp96 v93.1, RDK A98 cp99 v93.1, FRS w49 A107 cp108 v105.1, FRK w49 A110 cp111 v105.1, RDS A107 cp108 v105.1, RDK A110 cp111 v105.1, RDS A119 cp120 v117.1, RDK A122 cp123 v117.1, FRS w49 A131 cp132 v129.1, FRK w49 A134 cp135 v129.1, RDS A131 cp132 v129.1, RDK A134 cp135 v129.1, RDS A143 cp144 v141.1, RDK A146 cp147 v141.1, FRS w49 A155 cp156 v153, FRK w49 A158 cp159 v153, RDS A155 cp156 v153, RDK A158 cp159 v153]) => (x_loadA (j := 0) (vs := [.slice A155 v153.Arena.Slots.length cp156, .slice A158 v153.Kids.length cp159]) ag79 (by rfl) (H.cells (i := 17) (by rfl)) (by rfl) (by rfl))) ?_
             refine PR_take (by rfl) (by rfl) (by rfl) (by exact wn1 rfl rfl rfl rfl) (fun wS (H : Sep ok w wS [GRB b17 A1 cp2 A5 cp6 a0, GRB b19 A9 cp10 A13 cp14 a1, HNB b21 a2, HNB b23 a3, .hole, .hole, GRB b47 A37 cp38 A42 cp43 v35, GRB b59 A53 cp54 A56 cp57 v51.1, HNB b61 v51.2.1, GRB b74 A68 cp69 A71 cp72 v66.1, HNB b76 v66.2.1, GRB b89 A83 cp84 A86 cp87 v81.1, GRB b101 A95 cp96 A98 cp99 v93.1, GRB b113 A107 cp108 A110 cp111 v105.1, GRB b125 A119 cp120 A122 cp123 v117.1, GRB b137 A131 cp132 A134 cp135 v129.1, GRB b149 A143 cp144 A146 cp147 v141.1, GRB b161 A155 cp156 A158 cp159 v153] [RDS A1 cp2 a0, RDK A5 cp6 a0, RDS A9 cp10 a1, RDK A13 cp14 a1, RDS A37 cp38 v35, RDK A42 cp43 v35, LTS w49 A1 cp2 a0, LTK w49 A5 cp6 a0, LTS w49 A9 cp10 a1, LTK w49 A13 cp14 a1, LTS w49 A37 cp38 v35, LTK w49 A42 cp43 v35, RE.sz w49.heap.size, FRS w49 A53 cp54 v51.1, FRK w49 A56 cp57 v51.1, RDS A53 cp54 v51.1, RDK A56 cp57 v51.1, RDS A68 cp69 v66.1, RDK A71 cp72 v66.1, FRS w49 A83 cp84 v81.1, FRK w49 A86 cp87 v81.1, RDS A83 cp84 v81.1, RDK A86 cp87 v81.1, RDS A95 cp96 v93.1, RDK A98 cp99 v93.1, FRS w49 A107 cp108 v105.1, FRK w49 A110 cp111 v105.1, RDS A107 cp108 v105.1, RDK A110 cp111 v105.1, RDS A119 cp120 v117.1, RDK A122 cp123 v117.1, FRS w49 A131 cp132 v129.1, FRK w49 A134 cp135 v129.1, RDS A131 cp132 v129.1, RDK A134 cp135 v129.1, RDS A143 cp144 v141.1, RDK A146 cp147 v141.1, FRS w49 A155 cp156 v153, FRK w49 A158 cp159 v153, RDS A155 cp156 v153, RDK A158 cp159 v153]) => (x_loadA (j := 0) (vs := [.slice A1 a0.Arena.Slots.length cp2, .slice A5 a0.Kids.length cp6]) ag79 (by rfl) (H.cells (i := 0) (by rfl)) (by rfl) (by rfl))) ?_
             obtain ⟨v209, hv208, hm⟩ := bind_some hm
             refine PR_run (by rfl) (O_call (by exact wn1 rfl rfl rfl rfl) (by rfl) (by rfl) (x_callL (by rfl) (args := [.agg #[.slice A155 v153.Arena.Slots.length cp156, .slice A158 v153.Kids.length cp159], .agg #[.slice A1 a0.Arena.Slots.length cp2, .slice A5 a0.Kids.length cp6]]) (by rfl) (cf54 _ _)) (c54 okT K w206 v153 A155 cp156 A158 cp159 a0 A1 cp2 A5 cp6 (H.rd (i := 39) (by rfl)).any (H.rd (i := 40) (by rfl)).any (H.rd (i := 0) (by rfl)).any (H.rd (i := 1) (by rfl)).any v209 hv208) ?_)
             rintro e w210 ⟨rfl, H2⟩
             have H : Sep ok w w210 [GRB b17 A1 cp2 A5 cp6 a0, GRB b19 A9 cp10 A13 cp14 a1, HNB b21 a2, HNB b23 a3, .hole, .hole, GRB b47 A37 cp38 A42 cp43 v35, GRB b59 A53 cp54 A56 cp57 v51.1, HNB b61 v51.2.1, GRB b74 A68 cp69 A71 cp72 v66.1, HNB b76 v66.2.1, GRB b89 A83 cp84 A86 cp87 v81.1, GRB b101 A95 cp96 A98 cp99 v93.1, GRB b113 A107 cp108 A110 cp111 v105.1, GRB b125 A119 cp120 A122 cp123 v117.1, GRB b137 A131 cp132 A134 cp135 v129.1, GRB b149 A143 cp144 A146 cp147 v141.1, GRB b161 A155 cp156 A158 cp159 v153] [RDS A1 cp2 a0, RDK A5 cp6 a0, RDS A9 cp10 a1, RDK A13 cp14 a1, RDS A37 cp38 v35, RDK A42 cp43 v35, LTS w49 A1 cp2 a0, LTK w49 A5 cp6 a0, LTS w49 A9 cp10 a1, LTK w49 A13 cp14 a1, LTS w49 A37 cp38 v35, LTK w49 A42 cp43 v35, RE.sz w49.heap.size, FRS w49 A53 cp54 v51.1, FRK w49 A56 cp57 v51.1, RDS A53 cp54 v51.1, RDK A56 cp57 v51.1, RDS A68 cp69 v66.1, RDK A71 cp72 v66.1, FRS w49 A83 cp84 v81.1, FRK w49 A86 cp87 v81.1, RDS A83 cp84 v81.1, RDK A86 cp87 v81.1, RDS A95 cp96 v93.1, RDK A98 cp99 v93.1, FRS w49 A107 cp108 v105.1, FRK w49 A110 cp111 v105.1, RDS A107 cp108 v105.1, RDK A110 cp111 v105.1, RDS A119 cp120 v117.1, RDK A122 cp123 v117.1, FRS w49 A131 cp132 v129.1, FRK w49 A134 cp135 v129.1, RDS A131 cp132 v129.1, RDK A134 cp135 v129.1, RDS A143 cp144 v141.1, RDK A146 cp147 v141.1, FRS w49 A155 cp156 v153, FRK w49 A158 cp159 v153, RDS A155 cp156 v153, RDK A158 cp159 v153] := H.below H2.base
             clear H2
             refine ⟨_, rfl, H, ?_⟩
             show PR _ _ _ _ _ _ _ _
             refine PR_free (by rfl) (by rfl) (by rfl) (by exact wn0 rfl) (fun wS => (x_pick_t (v := .bool v209) (by rfl) (by rfl))) ?_
             refine PR_nil ?_
             exact ⟨⟨congrArg Value.bool (Option.some.inj hm), rfl, rfl, rfl, rfl, rfl, rfl, rfl, rfl, rfl, trivial⟩, H⟩
           ·rintro r' w' ⟨hA, H⟩
            obtain ⟨r211, rfl⟩ := regen _ hA; clear hA
            obtain ⟨w212, rfl⟩ : ∃ W : World, W = w' := ⟨_, rfl⟩
            show PR _ _ _ _ _ _ _ _
            refine PR_free (by rfl) (by rfl) (by rfl) (by exact wn0 rfl) (fun wS => (x_move (v := .bool b207) (by rfl))) ?_
            obtain ⟨b213, hmS, hm⟩ := bind_some hm
            refine PR_cut 8 (fun r' w' => Agr [(158, .bool b213), (5, .pointer (some ⟨b17, 0, none⟩)), (11, .pointer (some ⟨b47, 0, none⟩)), (12, .pointer (some ⟨b59, 0, none⟩)), (18, .pointer (some ⟨b89, 0, none⟩)), (22, .pointer (some ⟨b113, 0, none⟩)), (26, .pointer (some ⟨b137, 0, none⟩)), (30, .pointer (some ⟨b161, 0, none⟩)), (31, .bool b197)] r' ∧ Sep ok w w' [GRB b17 A1 cp2 A5 cp6 a0, GRB b19 A9 cp10 A13 cp14 a1, HNB b21 a2, HNB b23 a3, .hole, .hole, GRB b47 A37 cp38 A42 cp43 v35, GRB b59 A53 cp54 A56 cp57 v51.1, HNB b61 v51.2.1, GRB b74 A68 cp69 A71 cp72 v66.1, HNB b76 v66.2.1, GRB b89 A83 cp84 A86 cp87 v81.1, GRB b101 A95 cp96 A98 cp99 v93.1, GRB b113 A107 cp108 A110 cp111 v105.1, GRB b125 A119 cp120 A122 cp123 v117.1, GRB b137 A131 cp132 A134 cp135 v129.1, GRB b149 A143 cp144 A146 cp147 v141.1, GRB b161 A155 cp156 A158 cp159 v153] [RDS A1 cp2 a0, RDK A5 cp6 a0, RDS A9 cp10 a1, RDK A13 cp14 a1, RDS A37 cp38 v35, RDK A42 cp43 v35, LTS w49 A1 cp2 a0, LTK w49 A5 cp6 a0, LTS w49 A9 cp10 a1, LTK w49 A13 cp14 a1, LTS w49 A37 cp38 v35, LTK w49 A42 cp43 v35, RE.sz w49.heap.size, FRS w49 A53 cp54 v51.1, FRK w49 A56 cp57 v51.1, RDS A53 cp54 v51.1, RDK A56 cp57 v51.1, RDS A68 cp69 v66.1, RDK A71 cp72 v66.1, FRS w49 A83 cp84 v81.1, FRK w49 A86 cp87 v81.1, RDS A83 cp84 v81.1, RDK A86 cp87 v81.1, RDS A95 cp96 v93.1, RDK A98 cp99 v93.1, FRS w49 A107 cp108 v105.1, FRK w49 A110 cp111 v105.1, RDS A107 cp108 v105.1, RDK A110 cp111 v105.1, RDS A119 cp120 v117.1, RDK A122 cp123 v117.1, FRS w49 A131 cp132 v129.1, FRK w49 A134 cp135 v129.1, RDS A131 cp132 v129.1, RDK A134 cp135 v129.1, RDS A143 cp144 v141.1, RDK A146 cp147 v141.1, FRS w49 A155 cp156 v153, FRK w49 A158 cp159 v153, RDS A155 cp156 v153, RDK A158 cp159 v153]) ?_ ?_
            ·cases hbS : b207
             ·have hm := cond_f hbS hmS
              refine PR_off (by rfl) (by rfl) (by rfl) (by exact wn2 rfl rfl rfl rfl) ?_
              refine PR_off (by rfl) (by rfl) (by rfl) (by exact wn2 rfl rfl rfl rfl) ?_
              refine PR_off (by rfl) (by rfl) (by rfl) (by exact wn2 rfl rfl rfl rfl) ?_
              refine PR_off (by rfl) (by rfl) (by rfl) (by exact wn2 rfl rfl rfl rfl) ?_
              refine PR_run (by rfl) (OpR_off (by exact wn2 rfl rfl rfl rfl) (by rfl) (by rfl) ⟨H, ?_⟩)
              refine PR_run (by rfl) (OpR_off (by exact wn2 rfl rfl rfl rfl) (by rfl) (by rfl) ⟨H, ?_⟩)
              refine PR_offF (by rfl) (by rfl) (by rfl) (by exact wn2 rfl rfl rfl rfl) ?_
              refine PR_free (by rfl) (by rfl) (by rfl) (by exact wn0 rfl) (fun wS => (x_pick_f (v := .bool false) (by rfl) (by rfl))) ?_
              refine PR_nil ?_
              exact ⟨⟨congrArg Value.bool (Option.some.inj hm), rfl, rfl, rfl, rfl, rfl, rfl, rfl, rfl, trivial⟩, H⟩
             ·have hm := cond_t hbS hmS
              refine PR_take (by rfl) (by rfl) (by rfl) (by exact wn1 rfl rfl rfl rfl) (fun wS (H : Sep ok w wS [GRB b17 A1 cp2 A5 cp6 a0, GRB b19 A9 cp10 A13 cp14 a1, HNB b21 a2, HNB b23 a3, .hole, .hole, GRB b47 A37 cp38 A42 cp43 v35, GRB b59 A53 cp54 A56 cp57 v51.1, HNB b61 v51.2.1, GRB b74 A68 cp69 A71 cp72 v66.1, HNB b76 v66.2.1, GRB b89 A83 cp84 A86 cp87 v81.1, GRB b101 A95 cp96 A98 cp99 v93.1, GRB b113 A107 cp108 A110 cp111 v105.1, GRB b125 A119 cp120 A122 cp123 v117.1, GRB b137 A131 cp132 A134 cp135 v129.1, GRB b149 A143 cp144 A146 cp147 v141.1, GRB b161 A155 cp156 A158 cp159 v153] [RDS A1 cp2 a0, RDK A5 cp6 a0, RDS A9 cp10 a1, RDK A13 cp14 a1, RDS A37 cp38 v35, RDK A42 cp43 v35, LTS w49 A1 cp2 a0, LTK w49 A5 cp6 a0, LTS w49 A9 cp10 a1, LTK w49 A13 cp14 a1, LTS w49 A37 cp38 v35, LTK w49 A42 cp43 v35, RE.sz w49.heap.size, FRS w49 A53 cp54 v51.1, FRK w49 A56 cp57 v51.1, RDS A53 cp54 v51.1, RDK A56 cp57 v51.1, RDS A68 cp69 v66.1, RDK A71 cp72 v66.1, FRS w49 A83 cp84 v81.1, FRK w49 A86 cp87 v81.1, RDS A83 cp84 v81.1, RDK A86 cp87 v81.1, RDS A95 cp96 v93.1, RDK A98 cp99 v93.1, FRS w49 A107 cp108 v105.1, FRK w49 A110 cp111 v105.1, RDS A107 cp108 v105.1, RDK A110 cp111 v105.1, RDS A119 cp120 v117.1, RDK A122 cp123 v117.1, FRS w49 A131 cp132 v129.1, FRK w49 A134 cp135 v129.1, RDS A131 cp132 v129.1, RDK A134 cp135 v129.1, RDS A143 cp144 v141.1, RDK A146 cp147 v141.1, FRS w49 A155 cp156 v153, FRK w49 A158 cp159 v153, RDS A155 cp156 v153, RDK A158 cp159 v153]) => (x_loadA (j := 0) (vs := [.slice A1 a0.Arena.Slots.length cp2, .slice A5 a0.Kids.length cp6]) ag79 (by rfl) (H.cells (i := 0) (by rfl)) (by rfl) (by rfl))) ?_
              refine PR_take (by rfl) (by rfl) (by rfl) (by exact wn1 rfl rfl rfl rfl) (fun wS (H : Sep ok w wS [GRB b17 A1 cp2 A5 cp6 a0, GRB b19 A9 cp10 A13 cp14 a1, HNB b21 a2, HNB b23 a3, .hole, .hole, GRB b47 A37 cp38 A42 cp43 v35, GRB b59 A53 cp54 A56 cp57 v51.1, HNB b61 v51.2.1, GRB b74 A68 cp69 A71 cp72 v66.1, HNB b76 v66.2.1, GRB b89 A83 cp84 A86 cp87 v81.1, GRB b101 A95 cp96 A98 cp99 v93.1, GRB b113 A107 cp108 A110 cp111 v105.1, GRB b125 A119 cp120 A122 cp123 v117.1, GRB b137 A131 cp132 A134 cp135 v129.1, GRB b149 A143 cp144 A146 cp147 v141.1, GRB b161 A155 cp156 A158 cp159 v153] [RDS A1 cp2 a0, RDK A5 cp6 a0, RDS A9 cp10 a1, RDK A13 cp14 a1, RDS A37 cp38 v35, RDK A42 cp43 v35, LTS w49 A1 cp2 a0, LTK w49 A5 cp6 a0, LTS w49 A9 cp10 a1, LTK w49 A13 cp14 a1, LTS w49 A37 cp38 v35, LTK w49 A42 cp43 v35, RE.sz w49.heap.size, FRS w49 A53 cp54 v51.1, FRK w49 A56 cp57 v51.1, RDS A53 cp54 v51.1, RDK A56 cp57 v51.1, RDS A68 cp69 v66.1, RDK A71 cp72 v66.1, FRS w49 A83 cp84 v81.1, FRK w49 A86 cp87 v81.1, RDS A83 cp84 v81.1, RDK A86 cp87 v81.1, RDS A95 cp96 v93.1, RDK A98 cp99 v93.1, FRS w49 A107 cp108 v105.1, FRK w49 A110 cp111 v105.1, RDS A107 cp108 v105.1, RDK A110 cp111 v105.1, RDS A119 cp120 v117.1, RDK A122 cp123 v117.1, FRS w49 A131 cp132 v129.1, FRK w49 A134 cp135 v129.1, RDS A131 cp132 v129.1, RDK A134 cp135 v129.1, RDS A143 cp144 v141.1, RDK A146 cp147 v141.1, FRS w49 A155 cp156 v153, FRK w49 A158 cp159 v153, RDS A155 cp156 v153, RDK A158 cp159 v153]) => (x_loadA (j := 0) (vs := [.slice A9 a1.Arena.Slots.length cp10, .slice A13 a1.Kids.length cp14]) ag79 (by rfl) (H.cells (i := 1) (by rfl)) (by rfl) (by rfl))) ?_
              refine PR_take (by rfl) (by rfl) (by rfl) (by exact wn1 rfl rfl rfl rfl) (fun wS (H : Sep ok w wS [GRB b17 A1 cp2 A5 cp6 a0, GRB b19 A9 cp10 A13 cp14 a1, HNB b21 a2, HNB b23 a3, .hole, .hole, GRB b47 A37 cp38 A42 cp43 v35, GRB b59 A53 cp54 A56 cp57 v51.1, HNB b61 v51.2.1, GRB b74 A68 cp69 A71 cp72 v66.1, HNB b76 v66.2.1, GRB b89 A83 cp84 A86 cp87 v81.1, GRB b101 A95 cp96 A98 cp99 v93.1, GRB b113 A107 cp108 A110 cp111 v105.1, GRB b125 A119 cp120 A122 cp123 v117.1, GRB b137 A131 cp132 A134 cp135 v129.1, GRB b149 A143 cp144 A146 cp147 v141.1, GRB b161 A155 cp156 A158 cp159 v153] [RDS A1 cp2 a0, RDK A5 cp6 a0, RDS A9 cp10 a1, RDK A13 cp14 a1, RDS A37 cp38 v35, RDK A42 cp43 v35, LTS w49 A1 cp2 a0, LTK w49 A5 cp6 a0, LTS w49 A9 cp10 a1, LTK w49 A13 cp14 a1, LTS w49 A37 cp38 v35, LTK w49 A42 cp43 v35, RE.sz w49.heap.size, FRS w49 A53 cp54 v51.1, FRK w49 A56 cp57 v51.1, RDS A53 cp54 v51.1, RDK A56 cp57 v51.1, RDS A68 cp69 v66.1, RDK A71 cp72 v66.1, FRS w49 A83 cp84 v81.1, FRK w49 A86 cp87 v81.1, RDS A83 cp84 v81.1, RDK A86 cp87 v81.1, RDS A95 cp96 v93.1, RDK A98 cp99 v93.1, FRS w49 A107 cp108 v105.1, FRK w49 A110 cp111 v105.1, RDS A107 cp108 v105.1, RDK A110 cp111 v105.1, RDS A119 cp120 v117.1, RDK A122 cp123 v117.1, FRS w49 A131 cp132 v129.1, FRK w49 A134 cp135 v129.1, RDS A131 cp132 v129.1, RDK A134 cp135 v129.1, RDS A143 cp144 v141.1, RDK A146 cp147 v141.1, FRS w49 A155 cp156 v153, FRK w49 A158 cp159 v153, RDS A155 cp156 v153, RDK A158 cp159 v153]) => (x_loadA (j := 0) (vs := [.slice A1 a0.Arena.Slots.length cp2, .slice A5 a0.Kids.length cp6]) ag79 (by rfl) (H.cells (i := 0) (by rfl)) (by rfl) (by rfl))) ?_
              refine PR_take (by rfl) (by rfl) (by rfl) (by exact wn1 rfl rfl rfl rfl) (fun wS (H : Sep ok w wS [GRB b17 A1 cp2 A5 cp6 a0, GRB b19 A9 cp10 A13 cp14 a1, HNB b21 a2, HNB b23 a3, .hole, .hole, GRB b47 A37 cp38 A42 cp43 v35, GRB b59 A53 cp54 A56 cp57 v51.1, HNB b61 v51.2.1, GRB b74 A68 cp69 A71 cp72 v66.1, HNB b76 v66.2.1, GRB b89 A83 cp84 A86 cp87 v81.1, GRB b101 A95 cp96 A98 cp99 v93.1, GRB b113 A107 cp108 A110 cp111 v105.1, GRB b125 A119 cp120 A122 cp123 v117.1, GRB b137 A131 cp132 A134 cp135 v129.1, GRB b149 A143 cp144 A146 cp147 v141.1, GRB b161 A155 cp156 A158 cp159 v153] [RDS A1 cp2 a0, RDK A5 cp6 a0, RDS A9 cp10 a1, RDK A13 cp14 a1, RDS A37 cp38 v35, RDK A42 cp43 v35, LTS w49 A1 cp2 a0, LTK w49 A5 cp6 a0, LTS w49 A9 cp10 a1, LTK w49 A13 cp14 a1, LTS w49 A37 cp38 v35, LTK w49 A42 cp43 v35, RE.sz w49.heap.size, FRS w49 A53 cp54 v51.1, FRK w49 A56 cp57 v51.1, RDS A53 cp54 v51.1, RDK A56 cp57 v51.1, RDS A68 cp69 v66.1, RDK A71 cp72 v66.1, FRS w49 A83 cp84 v81.1, FRK w49 A86 cp87 v81.1, RDS A83 cp84 v81.1, RDK A86 cp87 v81.1, RDS A95 cp96 v93.1, RDK A98 cp99 v93.1, FRS w49 A107 cp108 v105.1, FRK w49 A110 cp111 v105.1, RDS A107 cp108 v105.1, RDK A110 cp111 v105.1, RDS A119 cp120 v117.1, RDK A122 cp123 v117.1, FRS w49 A131 cp132 v129.1, FRK w49 A134 cp135 v129.1, RDS A131 cp132 v129.1, RDK A134 cp135 v129.1, RDS A143 cp144 v141.1, RDK A146 cp147 v141.1, FRS w49 A155 cp156 v153, FRK w49 A158 cp159 v153, RDS A155 cp156 v153, RDK A158 cp159 v153]) => (x_loadA (j := 0) (vs := [.slice A9 a1.Arena.Slots.length cp10, .slice A13 a1.Kids.length cp14]) ag79 (by rfl) (H.cells (i := 1) (by rfl)) (by rfl) (by rfl))) ?_
              obtain ⟨v215, hv214, hm⟩ := bind_some hm
              refine PR_run (by rfl) (O_call (by exact wn1 rfl rfl rfl rfl) (by rfl) (by rfl) (x_callL (by rfl) (args := [.agg #[.slice A1 a0.Arena.Slots.length cp2, .slice A5 a0.Kids.length cp6], .agg #[.slice A9 a1.Arena.Slots.length cp10, .slice A13 a1.Kids.length cp14]]) (by rfl) (cf56 _ _)) (c56 okT K w212 a0 A1 cp2 A5 cp6 a1 A9 cp10 A13 cp14 (H.rd (i := 0) (by rfl)).any (H.rd (i := 1) (by rfl)).any (H.rd (i := 2) (by rfl)).any (H.rd (i := 3) (by rfl)).any v215 hv214) ?_)
              rintro e w216 ⟨rfl, H2⟩
              have H : Sep ok w w216 [GRB b17 A1 cp2 A5 cp6 a0, GRB b19 A9 cp10 A13 cp14 a1, HNB b21 a2, HNB b23 a3, .hole, .hole, GRB b47 A37 cp38 A42 cp43 v35, GRB b59 A53 cp54 A56 cp57 v51.1, HNB b61 v51.2.1, GRB b74 A68 cp69 A71 cp72 v66.1, HNB b76 v66.2.1, GRB b89 A83 cp84 A86 cp87 v81.1, GRB b101 A95 cp96 A98 cp99 v93.1, GRB b113 A107 cp108 A110 cp111 v105.1, GRB b125 A119 cp120 A122 cp123 v117.1, GRB b137 A131 cp132 A134 cp135 v129.1, GRB b149 A143 cp144 A146 cp147 v141.1, GRB b161 A155 cp156 A158 cp159 v153] [RDS A1 cp2 a0, RDK A5 cp6 a0, RDS A9 cp10 a1, RDK A13 cp14 a1, RDS A37 cp38 v35, RDK A42 cp43 v35, LTS w49 A1 cp2 a0, LTK w49 A5 cp6 a0, LTS w49 A9 cp10 a1, LTK w49 A13 cp14 a1, LTS w49 A37 cp38 v35, LTK w49 A42 cp43 v35, RE.sz w49.heap.size, FRS w49 A53 cp54 v51.1, FRK w49 A56 cp57 v51.1, RDS A53 cp54 v51.1, RDK A56 cp57 v51.1, RDS A68 cp69 v66.1, RDK A71 cp72 v66.1, FRS w49 A83 cp84 v81.1, FRK w49 A86 cp87 v81.1, RDS A83 cp84 v81.1, RDK A86 cp87 v81.1, RDS A95 cp96 v93.1, RDK A98 cp99 v93.1, FRS w49 A107 cp108 v105.1, FRK w49 A110 cp111 v105.1, RDS A107 cp108 v105.1, RDK A110 cp111 v105.1, RDS A119 cp120 v117.1, RDK A122 cp123 v117.1, FRS w49 A131 cp132 v129.1, FRK w49 A134 cp135 v129.1, RDS A131 cp132 v129.1, RDK A134 cp135 v129.1, RDS A143 cp144 v141.1, RDK A146 cp147 v141.1, FRS w49 A155 cp156 v153, FRK w49 A158 cp159 v153, RDS A155 cp156 v153, RDK A158 cp159 v153] := H.below H2.base
              clear H2
              refine ⟨_, rfl, H, ?_⟩
              show PR _ _ _ _ _ _ _ _
              obtain ⟨v218, hv217, hm⟩ := bind_some hm
              refine PR_run (by rfl) (O_call (by exact wn1 rfl rfl rfl rfl) (by rfl) (by rfl) (x_callL (by rfl) (args := [.agg #[.slice A1 a0.Arena.Slots.length cp2, .slice A5 a0.Kids.length cp6], .agg #[.slice A9 a1.Arena.Slots.length cp10, .slice A13 a1.Kids.length cp14]]) (by rfl) (cf54 _ _)) (c54 okT K w216 a0 A1 cp2 A5 cp6 a1 A9 cp10 A13 cp14 (H.rd (i := 0) (by rfl)).any (H.rd (i := 1) (by rfl)).any (H.rd (i := 2) (by rfl)).any (H.rd (i := 3) (by rfl)).any v218 hv217) ?_)
              rintro e w219 ⟨rfl, H2⟩
              have H : Sep ok w w219 [GRB b17 A1 cp2 A5 cp6 a0, GRB b19 A9 cp10 A13 cp14 a1, HNB b21 a2, HNB b23 a3, .hole, .hole, GRB b47 A37 cp38 A42 cp43 v35, GRB b59 A53 cp54 A56 cp57 v51.1, HNB b61 v51.2.1, GRB b74 A68 cp69 A71 cp72 v66.1, HNB b76 v66.2.1, GRB b89 A83 cp84 A86 cp87 v81.1, GRB b101 A95 cp96 A98 cp99 v93.1, GRB b113 A107 cp108 A110 cp111 v105.1, GRB b125 A119 cp120 A122 cp123 v117.1, GRB b137 A131 cp132 A134 cp135 v129.1, GRB b149 A143 cp144 A146 cp147 v141.1, GRB b161 A155 cp156 A158 cp159 v153] [RDS A1 cp2 a0, RDK A5 cp6 a0, RDS A9 cp10 a1, RDK A13 cp14 a1, RDS A37 cp38 v35, RDK A42 cp43 v35, LTS w49 A1 cp2 a0, LTK w49 A5 cp6 a0, LTS w49 A9 cp10 a1, LTK w49 A13 cp14 a1, LTS w49 A37 cp38 v35, LTK w49 A42 cp43 v35, RE.sz w49.heap.size, FRS w49 A53 cp54 v51.1, FRK w49 A56 cp57 v51.1, RDS A53 cp54 v51.1, RDK A56 cp57 v51.1, RDS A68 cp69 v66.1, RDK A71 cp72 v66.1, FRS w49 A83 cp84 v81.1, FRK w49 A86 cp87 v81.1, RDS A83 cp84 v81.1, RDK A86 cp87 v81.1, RDS A95 cp96 v93.1, RDK A98 cp99 v93.1, FRS w49 A107 cp108 v105.1, FRK w49 A110 cp111 v105.1, RDS A107 cp108 v105.1, RDK A110 cp111 v105.1, RDS A119 cp120 v117.1, RDK A122 cp123 v117.1, FRS w49 A131 cp132 v129.1, FRK w49 A134 cp135 v129.1, RDS A131 cp132 v129.1, RDK A134 cp135 v129.1, RDS A143 cp144 v141.1, RDK A146 cp147 v141.1, FRS w49 A155 cp156 v153, FRK w49 A158 cp159 v153, RDS A155 cp156 v153, RDK A158 cp159 v153] := H.below H2.base
              clear H2
              refine ⟨_, rfl, H, ?_⟩
              show PR _ _ _ _ _ _ _ _
              refine PR_free (by rfl) (by rfl) (by rfl) (by exact wn1 rfl rfl rfl rfl) (fun wS => (x_eqlb un4 (by rfl) (by rfl))) ?_
              refine PR_free (by rfl) (by rfl) (by rfl) (by exact wn0 rfl) (fun wS => (x_pick_t (v := .bool (v215 == v218)) (by rfl) (by rfl))) ?_
              refine PR_nil ?_
              exact ⟨⟨congrArg Value.bool (Option.some.inj hm), rfl, rfl, rfl, rfl, rfl, rfl, rfl, rfl, trivial⟩, H⟩
            ·rintro r' w' ⟨hA, H⟩
             obtain ⟨r220, rfl⟩ := regen _ hA; clear hA
             obtain ⟨w221, rfl⟩ : ∃ W : World, W = w' := ⟨_, rfl⟩
             show PR _ _ _ _ _ _ _ _
             refine PR_free (by rfl) (by rfl) (by rfl) (by exact wn0 rfl) (fun wS => (x_move (v := .bool b213) (by rfl))) ?_
             obtain ⟨b222, hmS, hm⟩ := bind_some hm
             refine PR_cut 4 (fun r' w' => Agr [(163, .bool b222), (5, .pointer (some ⟨b17, 0, none⟩)), (11, .pointer (some ⟨b47, 0, none⟩)), (12, .pointer (some ⟨b59, 0, none⟩)), (18, .pointer (some ⟨b89, 0, none⟩)), (22, .pointer (some ⟨b113, 0, none⟩)), (26, .pointer (some ⟨b137, 0, none⟩)), (30, .pointer (some ⟨b161, 0, none⟩)), (31, .bool b197)] r' ∧ Sep ok w w' [GRB b17 A1 cp2 A5 cp6 a0, GRB b19 A9 cp10 A13 cp14 a1, HNB b21 a2, HNB b23 a3, .hole, .hole, GRB b47 A37 cp38 A42 cp43 v35, GRB b59 A53 cp54 A56 cp57 v51.1, HNB b61 v51.2.1, GRB b74 A68 cp69 A71 cp72 v66.1, HNB b76 v66.2.1, GRB b89 A83 cp84 A86 cp87 v81.1, GRB b101 A95 cp96 A98 cp99 v93.1, GRB b113 A107 cp108 A110 cp111 v105.1, GRB b125 A119 cp120 A122 cp123 v117.1, GRB b137 A131 cp132 A134 cp135 v129.1, GRB b149 A143 cp144 A146 cp147 v141.1, GRB b161 A155 cp156 A158 cp159 v153] [RDS A1 cp2 a0, RDK A5 cp6 a0, RDS A9 cp10 a1, RDK A13 cp14 a1, RDS A37 cp38 v35, RDK A42 cp43 v35, LTS w49 A1 cp2 a0, LTK w49 A5 cp6 a0, LTS w49 A9 cp10 a1, LTK w49 A13 cp14 a1, LTS w49 A37 cp38 v35, LTK w49 A42 cp43 v35, RE.sz w49.heap.size, FRS w49 A53 cp54 v51.1, FRK w49 A56 cp57 v51.1, RDS A53 cp54 v51.1, RDK A56 cp57 v51.1, RDS A68 cp69 v66.1, RDK A71 cp72 v66.1, FRS w49 A83 cp84 v81.1, FRK w49 A86 cp87 v81.1, RDS A83 cp84 v81.1, RDK A86 cp87 v81.1, RDS A95 cp96 v93.1, RDK A98 cp99 v93.1, FRS w49 A107 cp108 v105.1, FRK w49 A110 cp111 v105.1, RDS A107 cp108 v105.1, RDK A110 cp111 v105.1, RDS A119 cp120 v117.1, RDK A122 cp123 v117.1, FRS w49 A131 cp132 v129.1, FRK w49 A134 cp135 v129.1, RDS A131 cp132 v129.1, RDK A134 cp135 v129.1, RDS A143 cp144 v141.1, RDK A146 cp147 v141.1, FRS w49 A155 cp156 v153, FRK w49 A158 cp159 v153, RDS A155 cp156 v153, RDK A158 cp159 v153]) ?_ ?_
             ·cases hbS : b213
              ·have hm := cond_f hbS hmS
               refine PR_off (by rfl) (by rfl) (by rfl) (by exact wn2 rfl rfl rfl rfl) ?_
               refine PR_off (by rfl) (by rfl) (by rfl) (by exact wn2 rfl rfl rfl rfl) ?_
               refine PR_run (by rfl) (OpR_off (by exact wn2 rfl rfl rfl rfl) (by rfl) (by rfl) ⟨H, ?_⟩)
               refine PR_free (by rfl) (by rfl) (by rfl) (by exact wn0 rfl) (fun wS => (x_pick_f (v := .bool false) (by rfl) (by rfl))) ?_
               refine PR_nil ?_
               exact ⟨⟨congrArg Value.bool (Option.some.inj hm), rfl, rfl, rfl, rfl, rfl, rfl, rfl, rfl, trivial⟩, H⟩
              ·have hm := cond_t hbS hmS
               refine PR_take (by rfl) (by rfl) (by rfl) (by exact wn1 rfl rfl rfl rfl) (fun wS (H : Sep ok w wS [GRB b17 A1 cp2 A5 cp6 a0, GRB b19 A9 cp10 A13 cp14 a1, HNB b21 a2, HNB b23 a3, .hole, .hole, GRB b47 A37 cp38 A42 cp43 v35, GRB b59 A53 cp54 A56 cp57 v51.1, HNB b61 v51.2.1, GRB b74 A68 cp69 A71 cp72 v66.1, HNB b76 v66.2.1, GRB b89 A83 cp84 A86 cp87 v81.1, GRB b101 A95 cp96 A98 cp99 v93.1, GRB b113 A107 cp108 A110 cp111 v105.1, GRB b125 A119 cp120 A122 cp123 v117.1, GRB b137 A131 cp132 A134 cp135 v129.1, GRB b149 A143 cp144 A146 cp147 v141.1, GRB b161 A155 cp156 A158 cp159 v153] [RDS A1 cp2 a0, RDK A5 cp6 a0, RDS A9 cp10 a1, RDK A13 cp14 a1, RDS A37 cp38 v35, RDK A42 cp43 v35, LTS w49 A1 cp2 a0, LTK w49 A5 cp6 a0, LTS w49 A9 cp10 a1, LTK w49 A13 cp14 a1, LTS w49 A37 cp38 v35, LTK w49 A42 cp43 v35, RE.sz w49.heap.size, FRS w49 A53 cp54 v51.1, FRK w49 A56 cp57 v51.1, RDS A53 cp54 v51.1, RDK A56 cp57 v51.1, RDS A68 cp69 v66.1, RDK A71 cp72 v66.1, FRS w49 A83 cp84 v81.1, FRK w49 A86 cp87 v81.1, RDS A83 cp84 v81.1, RDK A86 cp87 v81.1, RDS A95 cp96 v93.1, RDK A98 cp99 v93.1, FRS w49 A107 cp108 v105.1, FRK w49 A110 cp111 v105.1, RDS A107 cp108 v105.1, RDK A110 cp111 v105.1, RDS A119 cp120 v117.1, RDK A122 cp123 v117.1, FRS w49 A131 cp132 v129.1, FRK w49 A134 cp135 v129.1, RDS A131 cp132 v129.1, RDK A134 cp135 v129.1, RDS A143 cp144 v141.1, RDK A146 cp147 v141.1, FRS w49 A155 cp156 v153, FRK w49 A158 cp159 v153, RDS A155 cp156 v153, RDK A158 cp159 v153]) => (x_loadA (j := 0) (vs := [.slice A37 v35.Arena.Slots.length cp38, .slice A42 v35.Kids.length cp43]) ag79 (by rfl) (H.cells (i := 6) (by rfl)) (by rfl) (by rfl))) ?_
               refine PR_take (by rfl) (by rfl) (by rfl) (by exact wn1 rfl rfl rfl rfl) (fun wS (H : Sep ok w wS [GRB b17 A1 cp2 A5 cp6 a0, GRB b19 A9 cp10 A13 cp14 a1, HNB b21 a2, HNB b23 a3, .hole, .hole, GRB b47 A37 cp38 A42 cp43 v35, GRB b59 A53 cp54 A56 cp57 v51.1, HNB b61 v51.2.1, GRB b74 A68 cp69 A71 cp72 v66.1, HNB b76 v66.2.1, GRB b89 A83 cp84 A86 cp87 v81.1, GRB b101 A95 cp96 A98 cp99 v93.1, GRB b113 A107 cp108 A110 cp111 v105.1, GRB b125 A119 cp120 A122 cp123 v117.1, GRB b137 A131 cp132 A134 cp135 v129.1, GRB b149 A143 cp144 A146 cp147 v141.1, GRB b161 A155 cp156 A158 cp159 v153] [RDS A1 cp2 a0, RDK A5 cp6 a0, RDS A9 cp10 a1, RDK A13 cp14 a1, RDS A37 cp38 v35, RDK A42 cp43 v35, LTS w49 A1 cp2 a0, LTK w49 A5 cp6 a0, LTS w49 A9 cp10 a1, LTK w49 A13 cp14 a1, LTS w49 A37 cp38 v35, LTK w49 A42 cp43 v35, RE.sz w49.heap.size, FRS w49 A53 cp54 v51.1, FRK w49 A56 cp57 v51.1, RDS A53 cp54 v51.1, RDK A56 cp57 v51.1, RDS A68 cp69 v66.1, RDK A71 cp72 v66.1, FRS w49 A83 cp84 v81.1, FRK w49 A86 cp87 v81.1, RDS A83 cp84 v81.1, RDK A86 cp87 v81.1, RDS A95 cp96 v93.1, RDK A98 cp99 v93.1, FRS w49 A107 cp108 v105.1, FRK w49 A110 cp111 v105.1, RDS A107 cp108 v105.1, RDK A110 cp111 v105.1, RDS A119 cp120 v117.1, RDK A122 cp123 v117.1, FRS w49 A131 cp132 v129.1, FRK w49 A134 cp135 v129.1, RDS A131 cp132 v129.1, RDK A134 cp135 v129.1, RDS A143 cp144 v141.1, RDK A146 cp147 v141.1, FRS w49 A155 cp156 v153, FRK w49 A158 cp159 v153, RDS A155 cp156 v153, RDK A158 cp159 v153]) => (x_loadA (j := 0) (vs := [.slice A1 a0.Arena.Slots.length cp2, .slice A5 a0.Kids.length cp6]) ag79 (by rfl) (H.cells (i := 0) (by rfl)) (by rfl) (by rfl))) ?_
               obtain ⟨v224, hv223, hm⟩ := bind_some hm
               refine PR_run (by rfl) (O_call (by exact wn1 rfl rfl rfl rfl) (by rfl) (by rfl) (x_callL (by rfl) (args := [.agg #[.slice A37 v35.Arena.Slots.length cp38, .slice A42 v35.Kids.length cp43], .agg #[.slice A1 a0.Arena.Slots.length cp2, .slice A5 a0.Kids.length cp6]]) (by rfl) (cf56 _ _)) (c56 okT K w221 v35 A37 cp38 A42 cp43 a0 A1 cp2 A5 cp6 (H.rd (i := 4) (by rfl)).any (H.rd (i := 5) (by rfl)).any (H.rd (i := 0) (by rfl)).any (H.rd (i := 1) (by rfl)).any v224 hv223) ?_)
               rintro e w225 ⟨rfl, H2⟩
               have H : Sep ok w w225 [GRB b17 A1 cp2 A5 cp6 a0, GRB b19 A9 cp10 A13 cp14 a1, HNB b21 a2, HNB b23 a3, .hole, .hole, GRB b47 A37 cp38 A42 cp43 v35, GRB b59 A53 cp54 A56 cp57 v51.1, HNB b61 v51.2.1, GRB b74 A68 cp69 A71 cp72 v66.1, HNB b76 v66.2.1, GRB b89 A83 cp84 A86 cp87 v81.1, GRB b101 A95 cp96 A98 cp99 v93.1, GRB b113 A107 cp108 A110 cp111 v105.1, GRB b125 A119 cp120 A122 cp123 v117.1, GRB b137 A131 cp132 A134 cp135 v129.1, GRB b149 A143 cp144 A146 cp147 v141.1, GRB b161 A155 cp156 A158 cp159 v153] [RDS A1 cp2 a0, RDK A5 cp6 a0, RDS A9 cp10 a1, RDK A13 cp14 a1, RDS A37 cp38 v35, RDK A42 cp43 v35, LTS w49 A1 cp2 a0, LTK w49 A5 cp6 a0, LTS w49 A9 cp10 a1, LTK w49 A13 cp14 a1, LTS w49 A37 cp38 v35, LTK w49 A42 cp43 v35, RE.sz w49.heap.size, FRS w49 A53 cp54 v51.1, FRK w49 A56 cp57 v51.1, RDS A53 cp54 v51.1, RDK A56 cp57 v51.1, RDS A68 cp69 v66.1, RDK A71 cp72 v66.1, FRS w49 A83 cp84 v81.1, FRK w49 A86 cp87 v81.1, RDS A83 cp84 v81.1, RDK A86 cp87 v81.1, RDS A95 cp96 v93.1, RDK A98 cp99 v93.1, FRS w49 A107 cp108 v105.1, FRK w49 A110 cp111 v105.1, RDS A107 cp108 v105.1, RDK A110 cp111 v105.1, RDS A119 cp120 v117.1, RDK A122 cp123 v117.1, FRS w49 A131 cp132 v129.1, FRK w49 A134 cp135 v129.1, RDS A131 cp132 v129.1, RDK A134 cp135 v129.1, RDS A143 cp144 v141.1, RDK A146 cp147 v141.1, FRS w49 A155 cp156 v153, FRK w49 A158 cp159 v153, RDS A155 cp156 v153, RDK A158 cp159 v153] := H.below H2.base
               clear H2
               refine ⟨_, rfl, H, ?_⟩
               show PR _ _ _ _ _ _ _ _
               refine PR_free (by rfl) (by rfl) (by rfl) (by exact wn0 rfl) (fun wS => (x_pick_t (v := .bool v224) (by rfl) (by rfl))) ?_
               refine PR_nil ?_
               exact ⟨⟨congrArg Value.bool (Option.some.inj hm), rfl, rfl, rfl, rfl, rfl, rfl, rfl, rfl, trivial⟩, H⟩
             ·rintro r' w' ⟨hA, H⟩
              obtain ⟨r226, rfl⟩ := regen _ hA; clear hA
              obtain ⟨w227, rfl⟩ : ∃ W : World, W = w' := ⟨_, rfl⟩
              show PR _ _ _ _ _ _ _ _
              refine PR_free (by rfl) (by rfl) (by rfl) (by exact wn0 rfl) (fun wS => (x_assign (v := .bool b222) (by rfl))) ?_
              refine PR_nil ?_
              refine W_seq ?_
              have hus0 : (units v51.1.Arena.Slots).length = v51.1.Arena.Slots.length := by simp [units]
              have hus1 : (v51.1.Kids.map units).length = v51.1.Kids.length := by simp [units]
              have hus2 : (units v81.1.Arena.Slots).length = v81.1.Arena.Slots.length := by simp [units]
              have hus3 : (v81.1.Kids.map units).length = v81.1.Kids.length := by simp [units]
              have hus4 : (units v105.1.Arena.Slots).length = v105.1.Arena.Slots.length := by simp [units]
              have hus5 : (v105.1.Kids.map units).length = v105.1.Kids.length := by simp [units]
              have hus6 : (units v129.1.Arena.Slots).length = v129.1.Arena.Slots.length := by simp [units]
              have hus7 : (v129.1.Kids.map units).length = v129.1.Kids.length := by simp [units]
              have hus8 : (units v153.Arena.Slots).length = v153.Arena.Slots.length := by simp [units]
              have hus9 : (v153.Kids.map units).length = v153.Kids.length := by simp [units]
              have H := ((((((((((H.alsoFrMap (K := k_Slot) (K' := kNumB) (fun _ => ()) rfl (by rintro w ok cs x rfl; exact ⟨_, _, rfl⟩) (i := 13) (by rfl)).alsoFrMap (K := (Kd.slice k_Handle)) (K' := (Kd.slice kTwoS)) units rfl (by rintro w ok cs x ⟨A, c, rfl, h⟩; refine ⟨A, c, by rw [units_length], ?_⟩; exact h.map (fun _ => ()) rfl (by rintro cs y rfl; exact ⟨_, _, rfl⟩)) (i := 14) (by rfl)).alsoFrMap (K := k_Slot) (K' := kNumB) (fun _ => ()) rfl (by rintro w ok cs x rfl; exact ⟨_, _, rfl⟩) (i := 19) (by rfl)).alsoFrMap (K := (Kd.slice k_Handle)) (K' := (Kd.slice kTwoS)) units rfl (by rintro w ok cs x ⟨A, c, rfl, h⟩; refine ⟨A, c, by rw [units_length], ?_⟩; exact h.map (fun _ => ()) rfl (by rintro cs y rfl; exact ⟨_, _, rfl⟩)) (i := 20) (by rfl)).alsoFrMap (K := k_Slot) (K' := kNumB) (fun _ => ()) rfl (by rintro w ok cs x rfl; exact ⟨_, _, rfl⟩) (i := 25) (by rfl)).alsoFrMap (K := (Kd.slice k_Handle)) (K' := (Kd.slice kTwoS)) units rfl (by rintro w ok cs x ⟨A, c, rfl, h⟩; refine ⟨A, c, by rw [units_length], ?_⟩; exact h.map (fun _ => ()) rfl (by rintro cs y rfl; exact ⟨_, _, rfl⟩)) (i := 26) (by rfl)).alsoFrMap (K := k_Slot) (K' := kNumB) (fun _ => ()) rfl (by rintro w ok cs x rfl; exact ⟨_, _, rfl⟩) (i := 31) (by rfl)).alsoFrMap (K := (Kd.slice k_Handle)) (K' := (Kd.slice kTwoS)) units rfl (by rintro w ok cs x ⟨A, c, rfl, h⟩; refine ⟨A, c, by rw [units_length], ?_⟩; exact h.map (fun _ => ()) rfl (by rintro cs y rfl; exact ⟨_, _, rfl⟩)) (i := 32) (by rfl)).alsoFrMap (K := k_Slot) (K' := kNumB) (fun _ => ()) rfl (by rintro w ok cs x rfl; exact ⟨_, _, rfl⟩) (i := 37) (by rfl)).alsoFrMap (K := (Kd.slice k_Handle)) (K' := (Kd.slice kTwoS)) units rfl (by rintro w ok cs x ⟨A, c, rfl, h⟩; refine ⟨A, c, by rw [units_length], ?_⟩; exact h.map (fun _ => ()) rfl (by rintro cs y rfl; exact ⟨_, _, rfl⟩)) (i := 38) (by rfl)).pick [6, 7, 8, 9, 10, 11, 41, 42, 43, 44, 45, 46, 47, 48, 49, 50]
              have H : Sep ok w w227 [GRB b17 A1 cp2 A5 cp6 a0, GRB b19 A9 cp10 A13 cp14 a1, HNB b21 a2, HNB b23 a3, .hole, .hole, GRB b47 A37 cp38 A42 cp43 v35, .blk b59 79 [.slice A53 (units v51.1.Arena.Slots).length cp54, .slice A56 (v51.1.Kids.map units).length cp57], HNB b61 v51.2.1, GRB b74 A68 cp69 A71 cp72 v66.1, HNB b76 v66.2.1, .blk b89 79 [.slice A83 (units v81.1.Arena.Slots).length cp84, .slice A86 (v81.1.Kids.map units).length cp87], GRB b101 A95 cp96 A98 cp99 v93.1, .blk b113 79 [.slice A107 (units v105.1.Arena.Slots).length cp108, .slice A110 (v105.1.Kids.map units).length cp111], GRB b125 A119 cp120 A122 cp123 v117.1, .blk b137 79 [.slice A131 (units v129.1.Arena.Slots).length cp132, .slice A134 (v129.1.Kids.map units).length cp135], GRB b149 A143 cp144 A146 cp147 v141.1, .blk b161 79 [.slice A155 (units v153.Arena.Slots).length cp156, .slice A158 (v153.Kids.map units).length cp159]] [LTS w49 A1 cp2 a0, LTK w49 A5 cp6 a0, LTS w49 A9 cp10 a1, LTK w49 A13 cp14 a1, LTS w49 A37 cp38 v35, LTK w49 A42 cp43 v35, RE.fr w49.heap.size kNumB A53 cp54 (units v51.1.Arena.Slots), RE.fr w49.heap.size (Kd.slice kTwoS) A56 cp57 (v51.1.Kids.map units), RE.fr w49.heap.size kNumB A83 cp84 (units v81.1.Arena.Slots), RE.fr w49.heap.size (Kd.slice kTwoS) A86 cp87 (v81.1.Kids.map units), RE.fr w49.heap.size kNumB A107 cp108 (units v105.1.Arena.Slots), RE.fr w49.heap.size (Kd.slice kTwoS) A110 cp111 (v105.1.Kids.map units), RE.fr w49.heap.size kNumB A131 cp132 (units v129.1.Arena.Slots), RE.fr w49.heap.size (Kd.slice kTwoS) A134 cp135 (v129.1.Kids.map units), RE.fr w49.heap.size kNumB A155 cp156 (units v153.Arena.Slots), RE.fr w49.heap.size (Kd.slice kTwoS) A158 cp159 (v153.Kids.map units)] := by rw [hus0, hus1, hus2, hus3, hus4, hus5, hus6, hus7, hus8, hus9]; exact H
              refine W_region ?_
              refine RL_p (x_loadA (j := 0) (vs := [.slice A53 (units v51.1.Arena.Slots).length cp54, .slice A56 (v51.1.Kids.map units).length cp57]) ag79 (by rfl) (H.cells (i := 7) (by rfl)) (by rfl) (by rfl)) ?_
              refine RL_cons (O_call (by exact wn0 rfl) (by rfl) (by rfl) (x_callL (by rfl) (args := [.agg #[.slice A53 (units v51.1.Arena.Slots).length cp54, .slice A56 (v51.1.Kids.map units).length cp57]]) (by rfl) (cf57 _ _)) (c57 (i := 6) (j := 7) hm0 (by exact ⟨Rob.lt, ⟨Rob.lt, ⟨Rob.lt, ⟨Rob.lt, ⟨Rob.lt, ⟨Rob.lt, ⟨Rob.fr kNumB_shp, ⟨Rob.fr (shp_slice kTwoS_shp), ⟨Rob.fr kNumB_shp, ⟨Rob.fr (shp_slice kTwoS_shp), ⟨Rob.fr kNumB_shp, ⟨Rob.fr (shp_slice kTwoS_shp), ⟨Rob.fr kNumB_shp, ⟨Rob.fr (shp_slice kTwoS_shp), ⟨Rob.fr kNumB_shp, ⟨Rob.fr (shp_slice kTwoS_shp), trivial⟩⟩⟩⟩⟩⟩⟩⟩⟩⟩⟩⟩⟩⟩⟩⟩) H (by rfl) (by rfl)) ?_)
              rintro e w228 ⟨rfl, H⟩
              have H : Sep ok w w228 [GRB b17 A1 cp2 A5 cp6 a0, GRB b19 A9 cp10 A13 cp14 a1, HNB b21 a2, HNB b23 a3, .hole, .hole, GRB b47 A37 cp38 A42 cp43 v35, .blk b59 79 [.slice A53 (units v51.1.Arena.Slots).length cp54, .slice A56 (v51.1.Kids.map units).length cp57], HNB b61 v51.2.1, GRB b74 A68 cp69 A71 cp72 v66.1, HNB b76 v66.2.1, .blk b89 79 [.slice A83 (units v81.1.Arena.Slots).length cp84, .slice A86 (v81.1.Kids.map units).length cp87], GRB b101 A95 cp96 A98 cp99 v93.1, .blk b113 79 [.slice A107 (units v105.1.Arena.Slots).length cp108, .slice A110 (v105.1.Kids.map units).length cp111], GRB b125 A119 cp120 A122 cp123 v117.1, .blk b137 79 [.slice A131 (units v129.1.Arena.Slots).length cp132, .slice A134 (v129.1.Kids.map units).length cp135], GRB b149 A143 cp144 A146 cp147 v141.1, .blk b161 79 [.slice A155 (units v153.Arena.Slots).length cp156, .slice A158 (v153.Kids.map units).length cp159]] [LTS w49 A1 cp2 a0, LTK w49 A5 cp6 a0, LTS w49 A9 cp10 a1, LTK w49 A13 cp14 a1, LTS w49 A37 cp38 v35, LTK w49 A42 cp43 v35, RE.fr w49.heap.size kNumB A53 cp54 (units v51.1.Arena.Slots), RE.fr w49.heap.size (Kd.slice kTwoS) A56 cp57 (v51.1.Kids.map units), RE.fr w49.heap.size kNumB A83 cp84 (units v81.1.Arena.Slots), RE.fr w49.heap.size (Kd.slice kTwoS) A86 cp87 (v81.1.Kids.map units), RE.fr w49.heap.size kNumB A107 cp108 (units v105.1.Arena.Slots), RE.fr w49.heap.size (Kd.slice kTwoS) A110 cp111 (v105.1.Kids.map units), RE.fr w49.heap.size kNumB A131 cp132 (units v129.1.Arena.Slots), RE.fr w49.heap.size (Kd.slice kTwoS) A134 cp135 (v129.1.Kids.map units), RE.fr w49.heap.size kNumB A155 cp156 (units v153.Arena.Slots), RE.fr w49.heap.size (Kd.slice kTwoS) A158 cp159 (v153.Kids.map units)] := H
              refine ⟨_, rfl, ?_⟩
              show RL _ _ _ _ _ _ _
              refine RL_nil ?_
              refine W_seq ?_
              refine W_region ?_
              refine RL_p (x_loadA (j := 0) (vs := [.slice A83 (units v81.1.Arena.Slots).length cp84, .slice A86 (v81.1.Kids.map units).length cp87]) ag79 (by rfl) (H.cells (i := 11) (by rfl)) (by rfl) (by rfl)) ?_
              refine RL_cons (O_call (by exact wn0 rfl) (by rfl) (by rfl) (x_callL (by rfl) (args := [.agg #[.slice A83 (units v81.1.Arena.Slots).length cp84, .slice A86 (v81.1.Kids.map units).length cp87]]) (by rfl) (cf57 _ _)) (c57 (i := 8) (j := 9) hm0 (by exact ⟨Rob.lt, ⟨Rob.lt, ⟨Rob.lt, ⟨Rob.lt, ⟨Rob.lt, ⟨Rob.lt, ⟨Rob.fr kNumB_shp, ⟨Rob.fr (shp_slice kTwoS_shp), ⟨Rob.fr kNumB_shp, ⟨Rob.fr (shp_slice kTwoS_shp), ⟨Rob.fr kNumB_shp, ⟨Rob.fr (shp_slice kTwoS_shp), ⟨Rob.fr kNumB_shp, ⟨Rob.fr (shp_slice kTwoS_shp), ⟨Rob.fr kNumB_shp, ⟨Rob.fr (shp_slice kTwoS_shp), trivial⟩⟩⟩⟩⟩⟩⟩⟩⟩⟩⟩⟩⟩⟩⟩⟩) H (by rfl) (by rfl)) ?_)
              rintro e w229 ⟨rfl, H⟩
              have H : Sep ok w w229 [GRB b17 A1 cp2 A5 cp6 a0, GRB b19 A9 cp10 A13 cp14 a1, HNB b21 a2, HNB b23 a3, .hole, .hole, GRB b47 A37 cp38 A42 cp43 v35, .blk b59 79 [.slice A53 (units v51.1.Arena.Slots).length cp54, .slice A56 (v51.1.Kids.map units).length cp57], HNB b61 v51.2.1, GRB b74 A68 cp69 A71 cp72 v66.1, HNB b76 v66.2.1, .blk b89 79 [.slice A83 (units v81.1.Arena.Slots).length cp84, .slice A86 (v81.1.Kids.map units).length cp87], GRB b101 A95 cp96 A98 cp99 v93.1, .blk b113 79 [.slice A107 (units v105.1.Arena.Slots).length cp108, .slice A110 (v105.1.Kids.map units).length cp111], GRB b125 A119 cp120 A122 cp123 v117.1, .blk b137 79 [.slice A131 (units v129.1.Arena.Slots).length cp132, .slice A134 (v129.1.Kids.map units).length cp135], GRB b149 A143 cp144 A146 cp147 v141.1, .blk b161 79 [.slice A155 (units v153.Arena.Slots).length cp156, .slice A158 (v153.Kids.map units).length cp159]] [LTS w49 A1 cp2 a0, LTK w49 A5 cp6 a0, LTS w49 A9 cp10 a1, LTK w49 A13 cp14 a1, LTS w49 A37 cp38 v35, LTK w49 A42 cp43 v35, RE.fr w49.heap.size kNumB A53 cp54 (units v51.1.Arena.Slots), RE.fr w49.heap.size (Kd.slice kTwoS) A56 cp57 (v51.1.Kids.map units), RE.fr w49.heap.size kNumB A83 cp84 (units v81.1.Arena.Slots), RE.fr w49.heap.size (Kd.slice kTwoS) A86 cp87 (v81.1.Kids.map units), RE.fr w49.heap.size kNumB A107 cp108 (units v105.1.Arena.Slots), RE.fr w49.heap.size (Kd.slice kTwoS) A110 cp111 (v105.1.Kids.map units), RE.fr w49.heap.size kNumB A131 cp132 (units v129.1.Arena.Slots), RE.fr w49.heap.size (Kd.slice kTwoS) A134 cp135 (v129.1.Kids.map units), RE.fr w49.heap.size kNumB A155 cp156 (units v153.Arena.Slots), RE.fr w49.heap.size (Kd.slice kTwoS) A158 cp159 (v153.Kids.map units)] := H
              refine ⟨_, rfl, ?_⟩
              show RL _ _ _ _ _ _ _
              refine RL_nil ?_
              refine W_seq ?_
              refine W_region ?_
              refine RL_p (x_loadA (j := 0) (vs := [.slice A107 (units v105.1.Arena.Slots).length cp108, .slice A110 (v105.1.Kids.map units).length cp111]) ag79 (by rfl) (H.cells (i := 13) (by rfl)) (by rfl) (by rfl)) ?_
              refine RL_cons (O_call (by exact wn0 rfl) (by rfl) (by rfl) (x_callL (by rfl) (args := [.agg #[.slice A107 (units v105.1.Arena.Slots).length cp108, .slice A110 (v105.1.Kids.map units).length cp111]]) (by rfl) (cf57 _ _)) (c57 (i := 10) (j := 11) hm0 (by exact ⟨Rob.lt, ⟨Rob.lt, ⟨Rob.lt, ⟨Rob.lt, ⟨Rob.lt, ⟨Rob.lt, ⟨Rob.fr kNumB_shp, ⟨Rob.fr (shp_slice kTwoS_shp), ⟨Rob.fr kNumB_shp, ⟨Rob.fr (shp_slice kTwoS_shp), ⟨Rob.fr kNumB_shp, ⟨Rob.fr (shp_slice kTwoS_shp), ⟨Rob.fr kNumB_shp, ⟨Rob.fr (shp_slice kTwoS_shp), ⟨Rob.fr kNumB_shp, ⟨Rob.fr (shp_slice kTwoS_shp), trivial⟩⟩⟩⟩⟩⟩⟩⟩⟩⟩⟩⟩⟩⟩⟩⟩) H (by rfl) (by rfl)) ?_)
              rintro e w230 ⟨rfl, H⟩
              have H : Sep ok w w230 [GRB b17 A1 cp2 A5 cp6 a0, GRB b19 A9 cp10 A13 cp14 a1, HNB b21 a2, HNB b23 a3, .hole, .hole, GRB b47 A37 cp38 A42 cp43 v35, .blk b59 79 [.slice A53 (units v51.1.Arena.Slots).length cp54, .slice A56 (v51.1.Kids.map units).length cp57], HNB b61 v51.2.1, GRB b74 A68 cp69 A71 cp72 v66.1, HNB b76 v66.2.1, .blk b89 79 [.slice A83 (units v81.1.Arena.Slots).length cp84, .slice A86 (v81.1.Kids.map units).length cp87], GRB b101 A95 cp96 A98 cp99 v93.1, .blk b113 79 [.slice A107 (units v105.1.Arena.Slots).length cp108, .slice A110 (v105.1.Kids.map units).length cp111], GRB b125 A119 cp120 A122 cp123 v117.1, .blk b137 79 [.slice A131 (units v129.1.Arena.Slots).length cp132, .slice A134 (v129.1.Kids.map units).length cp135], GRB b149 A143 cp144 A146 cp147 v141.1, .blk b161 79 [.slice A155 (units v153.Arena.Slots).length cp156, .slice A158 (v153.Kids.map units).length cp159]] [LTS w49 A1 cp2 a0, LTK w49 A5 cp6 a0, LTS w49 A9 cp10 a1, LTK w49 A13 cp14 a1, LTS w49 A37 cp38 v35, LTK w49 A42 cp43 v35, RE.fr w49.heap.size kNumB A53 cp54 (units v51.1.Arena.Slots), RE.fr w49.heap.size (Kd.slice kTwoS) A56 cp57 (v51.1.Kids.map units), RE.fr w49.heap.size kNumB A83 cp84 (units v81.1.Arena.Slots), RE.fr w49.heap.size (Kd.slice kTwoS) A86 cp87 (v81.1.Kids.map units), RE.fr w49.heap.size kNumB A107 cp108 (units v105.1.Arena.Slots), RE.fr w49.heap.size (Kd.slice kTwoS) A110 cp111 (v105.1.Kids.map units), RE.fr w49.heap.size kNumB A131 cp132 (units v129.1.Arena.Slots), RE.fr w49.heap.size (Kd.slice kTwoS) A134 cp135 (v129.1.Kids.map units), RE.fr w49.heap.size kNumB A155 cp156 (units v153.Arena.Slots), RE.fr w49.heap.size (Kd.slice kTwoS) A158 cp159 (v153.Kids.map units)] := H
              refine ⟨_, rfl, ?_⟩
              show RL _ _ _ _ _ _ _
              refine RL_nil ?_
              refine W_seq ?_
              refine W_region ?_
              refine RL_p (x_loadA (j := 0) (vs := [.slice A131 (units v129.1.Arena.Slots).length cp132, .slice A134 (v129.1.Kids.map units).length cp135]) ag79 (by rfl) (H.cells (i := 15) (by rfl)) (by rfl) (by rfl)) ?_
              refine RL_cons (O_call (by exact wn0 rfl) (by rfl) (by rfl) (x_callL (by rfl) (args := [.agg #[.slice A131 (units v129.1.Arena.Slots).length cp132, .slice A134 (v129.1.Kids.map units).length cp135]]) (by rfl) (cf57 _ _)) (c57 (i := 12) (j := 13) hm0 (by exact ⟨Rob.lt, ⟨Rob.lt, ⟨Rob.lt, ⟨Rob.lt, ⟨Rob.lt, ⟨Rob.lt, ⟨Rob.fr kNumB_shp, ⟨Rob.fr (shp_slice kTwoS_shp), ⟨Rob.fr kNumB_shp, ⟨Rob.fr (shp_slice kTwoS_shp), ⟨Rob.fr kNumB_shp, ⟨Rob.fr (shp_slice kTwoS_shp), ⟨Rob.fr kNumB_shp, ⟨Rob.fr (shp_slice kTwoS_shp), ⟨Rob.fr kNumB_shp, ⟨Rob.fr (shp_slice kTwoS_shp), trivial⟩⟩⟩⟩⟩⟩⟩⟩⟩⟩⟩⟩⟩⟩⟩⟩) H (by rfl) (by rfl)) ?_)
              rintro e w231 ⟨rfl, H⟩
              have H : Sep ok w w231 [GRB b17 A1 cp2 A5 cp6 a0, GRB b19 A9 cp10 A13 cp14 a1, HNB b21 a2, HNB b23 a3, .hole, .hole, GRB b47 A37 cp38 A42 cp43 v35, .blk b59 79 [.slice A53 (units v51.1.Arena.Slots).length cp54, .slice A56 (v51.1.Kids.map units).length cp57], HNB b61 v51.2.1, GRB b74 A68 cp69 A71 cp72 v66.1, HNB b76 v66.2.1, .blk b89 79 [.slice A83 (units v81.1.Arena.Slots).length cp84, .slice A86 (v81.1.Kids.map units).length cp87], GRB b101 A95 cp96 A98 cp99 v93.1, .blk b113 79 [.slice A107 (units v105.1.Arena.Slots).length cp108, .slice A110 (v105.1.Kids.map units).length cp111], GRB b125 A119 cp120 A122 cp123 v117.1, .blk b137 79 [.slice A131 (units v129.1.Arena.Slots).length cp132, .slice A134 (v129.1.Kids.map units).length cp135], GRB b149 A143 cp144 A146 cp147 v141.1, .blk b161 79 [.slice A155 (units v153.Arena.Slots).length cp156, .slice A158 (v153.Kids.map units).length cp159]] [LTS w49 A1 cp2 a0, LTK w49 A5 cp6 a0, LTS w49 A9 cp10 a1, LTK w49 A13 cp14 a1, LTS w49 A37 cp38 v35, LTK w49 A42 cp43 v35, RE.fr w49.heap.size kNumB A53 cp54 (units v51.1.Arena.Slots), RE.fr w49.heap.size (Kd.slice kTwoS) A56 cp57 (v51.1.Kids.map units), RE.fr w49.heap.size kNumB A83 cp84 (units v81.1.Arena.Slots), RE.fr w49.heap.size (Kd.slice kTwoS) A86 cp87 (v81.1.Kids.map units), RE.fr w49.heap.size kNumB A107 cp108 (units v105.1.Arena.Slots), RE.fr w49.heap.size (Kd.slice kTwoS) A110 cp111 (v105.1.Kids.map units), RE.fr w49.heap.size kNumB A131 cp132 (units v129.1.Arena.Slots), RE.fr w49.heap.size (Kd.slice kTwoS) A134 cp135 (v129.1.Kids.map units), RE.fr w49.heap.size kNumB A155 cp156 (units v153.Arena.Slots), RE.fr w49.heap.size (Kd.slice kTwoS) A158 cp159 (v153.Kids.map units)] := H
              refine ⟨_, rfl, ?_⟩
              show RL _ _ _ _ _ _ _
              refine RL_nil ?_
              refine W_seq ?_
              refine W_region ?_
              refine RL_p (x_loadA (j := 0) (vs := [.slice A155 (units v153.Arena.Slots).length cp156, .slice A158 (v153.Kids.map units).length cp159]) ag79 (by rfl) (H.cells (i := 17) (by rfl)) (by rfl) (by rfl)) ?_
              refine RL_cons (O_call (by exact wn0 rfl) (by rfl) (by rfl) (x_callL (by rfl) (args := [.agg #[.slice A155 (units v153.Arena.Slots).length cp156, .slice A158 (v153.Kids.map units).length cp159]]) (by rfl) (cf57 _ _)) (c57 (i := 14) (j := 15) hm0 (by exact ⟨Rob.lt, ⟨Rob.lt, ⟨Rob.lt, ⟨Rob.lt, ⟨Rob.lt, ⟨Rob.lt, ⟨Rob.fr kNumB_shp, ⟨Rob.fr (shp_slice kTwoS_shp), ⟨Rob.fr kNumB_shp, ⟨Rob.fr (shp_slice kTwoS_shp), ⟨Rob.fr kNumB_shp, ⟨Rob.fr (shp_slice kTwoS_shp), ⟨Rob.fr kNumB_shp, ⟨Rob.fr (shp_slice kTwoS_shp), ⟨Rob.fr kNumB_shp, ⟨Rob.fr (shp_slice kTwoS_shp), trivial⟩⟩⟩⟩⟩⟩⟩⟩⟩⟩⟩⟩⟩⟩⟩⟩) H (by rfl) (by rfl)) ?_)
              rintro e w232 ⟨rfl, H⟩
              have H : Sep ok w w232 [GRB b17 A1 cp2 A5 cp6 a0, GRB b19 A9 cp10 A13 cp14 a1, HNB b21 a2, HNB b23 a3, .hole, .hole, GRB b47 A37 cp38 A42 cp43 v35, .blk b59 79 [.slice A53 (units v51.1.Arena.Slots).length cp54, .slice A56 (v51.1.Kids.map units).length cp57], HNB b61 v51.2.1, GRB b74 A68 cp69 A71 cp72 v66.1, HNB b76 v66.2.1, .blk b89 79 [.slice A83 (units v81.1.Arena.Slots).length cp84, .slice A86 (v81.1.Kids.map units).length cp87], GRB b101 A95 cp96 A98 cp99 v93.1, .blk b113 79 [.slice A107 (units v105.1.Arena.Slots).length cp108, .slice A110 (v105.1.Kids.map units).length cp111], GRB b125 A119 cp120 A122 cp123 v117.1, .blk b137 79 [.slice A131 (units v129.1.Arena.Slots).length cp132, .slice A134 (v129.1.Kids.map units).length cp135], GRB b149 A143 cp144 A146 cp147 v141.1, .blk b161 79 [.slice A155 (units v153.Arena.Slots).length cp156, .slice A158 (v153.Kids.map units).length cp159]] [LTS w49 A1 cp2 a0, LTK w49 A5 cp6 a0, LTS w49 A9 cp10 a1, LTK w49 A13 cp14 a1, LTS w49 A37 cp38 v35, LTK w49 A42 cp43 v35, RE.fr w49.heap.size kNumB A53 cp54 (units v51.1.Arena.Slots), RE.fr w49.heap.size (Kd.slice kTwoS) A56 cp57 (v51.1.Kids.map units), RE.fr w49.heap.size kNumB A83 cp84 (units v81.1.Arena.Slots), RE.fr w49.heap.size (Kd.slice kTwoS) A86 cp87 (v81.1.Kids.map units), RE.fr w49.heap.size kNumB A107 cp108 (units v105.1.Arena.Slots), RE.fr w49.heap.size (Kd.slice kTwoS) A110 cp111 (v105.1.Kids.map units), RE.fr w49.heap.size kNumB A131 cp132 (units v129.1.Arena.Slots), RE.fr w49.heap.size (Kd.slice kTwoS) A134 cp135 (v129.1.Kids.map units), RE.fr w49.heap.size kNumB A155 cp156 (units v153.Arena.Slots), RE.fr w49.heap.size (Kd.slice kTwoS) A158 cp159 (v153.Kids.map units)] := H
              refine ⟨_, rfl, ?_⟩
              show RL _ _ _ _ _ _ _
              refine RL_nil ?_
              refine W_seq ?_
              have H : Sep ok w w232 [GRB b17 A1 cp2 A5 cp6 a0, GRB b19 A9 cp10 A13 cp14 a1, HNB b21 a2, HNB b23 a3, .hole, .hole, GRB b47 A37 cp38 A42 cp43 v35, .blk b59 79 [.slice A53 (units v51.1.Arena.Slots).length cp54, .slice A56 (v51.1.Kids.map units).length cp57], HNB b61 v51.2.1, GRB b74 A68 cp69 A71 cp72 v66.1, HNB b76 v66.2.1, .blk b89 79 [.slice A83 (units v81.1.Arena.Slots).length cp84, .slice A86 (v81.1.Kids.map units).length cp87], GRB b101 A95 cp96 A98 cp99 v93.1, .blk b113 79 [.slice A107 (units v105.1.Arena.Slots).length cp108, .slice A110 (v105.1.Kids.map units).length cp111], GRB b125 A119 cp120 A122 cp123 v117.1, .blk b137 79 [.slice A131 (units v129.1.Arena.Slots).length cp132, .slice A134 (v129.1.Kids.map units).length cp135], GRB b149 A143 cp144 A146 cp147 v141.1, .blk b161 79 [.slice A155 (units v153.Arena.Slots).length cp156, .slice A158 (v153.Kids.map units).length cp159]] [RDS A1 cp2 a0, RDK A5 cp6 a0, RDS A9 cp10 a1, RDK A13 cp14 a1, RDS A37 cp38 v35, RDK A42 cp43 v35] := ((((((H.alsoLtRd (i := 0) (by rfl)).alsoLtRd (i := 1) (by rfl)).alsoLtRd (i := 2) (by rfl)).alsoLtRd (i := 3) (by rfl)).alsoLtRd (i := 4) (by rfl)).alsoLtRd (i := 5) (by rfl)).pick [16, 17, 18, 19, 20, 21]
              refine W_region ?_
              refine RL_p (x_move (v := .bool b197) (by rfl)) ?_
              refine RL_p (x_move (v := .bool b197) (by rfl)) ?_
              obtain ⟨b233, hmS, hm⟩ := bind_some hm
              refine RL_cut 2 (fun r' w' => Agr [(177, .bool b233), (5, .pointer (some ⟨b17, 0, none⟩)), (11, .pointer (some ⟨b47, 0, none⟩))] r' ∧ Sep ok w w' [GRB b17 A1 cp2 A5 cp6 a0, GRB b19 A9 cp10 A13 cp14 a1, HNB b21 a2, HNB b23 a3, .hole, .hole, GRB b47 A37 cp38 A42 cp43 v35, .blk b59 79 [.slice A53 (units v51.1.Arena.Slots).length cp54, .slice A56 (v51.1.Kids.map units).length cp57], HNB b61 v51.2.1, GRB b74 A68 cp69 A71 cp72 v66.1, HNB b76 v66.2.1, .blk b89 79 [.slice A83 (units v81.1.Arena.Slots).length cp84, .slice A86 (v81.1.Kids.map units).length cp87], GRB b101 A95 cp96 A98 cp99 v93.1, .blk b113 79 [.slice A107 (units v105.1.Arena.Slots).length cp108, .slice A110 (v105.1.Kids.map units).length cp111], GRB b125 A119 cp120 A122 cp123 v117.1, .blk b137 79 [.slice A131 (units v129.1.Arena.Slots).length cp132, .slice A134 (v129.1.Kids.map units).length cp135], GRB b149 A143 cp144 A146 cp147 v141.1, .blk b161 79 [.slice A155 (units v153.Arena.Slots).length cp156, .slice A158 (v153.Kids.map units).length cp159]] [RDS A1 cp2 a0, RDK A5 cp6 a0, RDS A9 cp10 a1, RDK A13 cp14 a1, RDS A37 cp38 v35, RDK A42 cp43 v35]) ?_ ?_
              ·cases hbS : b197
               ·have hm := cond_f hbS hmS
                refine RL_cons (OpR_off (by exact wn2 rfl rfl rfl rfl) (by rfl) (by rfl) ?_)
                refine RL_p (x_pick_f (v := .bool false) (by rfl) (by rfl)) ?_
                refine RL_nil ?_
                exact ⟨⟨congrArg Value.bool (Option.some.inj hm), rfl, rfl, trivial⟩, H⟩
               ·have hm := cond_t hbS hmS
                refine RL_pure (by exact wn1 rfl rfl rfl rfl) (by rfl) (by rfl) (x_move (v := .bool b222) (by rfl)) ?_
                refine RL_p (x_pick_t (v := .bool b222) (by rfl) (by rfl)) ?_
                refine RL_nil ?_
                exact ⟨⟨congrArg Value.bool (Option.some.inj hm), rfl, rfl, trivial⟩, H⟩
              ·rintro r' w' ⟨hA, H⟩
               obtain ⟨r234, rfl⟩ := regen _ hA; clear hA
               obtain ⟨w235, rfl⟩ : ∃ W : World, W = w' := ⟨_, rfl⟩
               show RL _ _ _ _ _ _ _
               refine RL_p (x_move (v := .bool b233) (by rfl)) ?_
               obtain ⟨b236, hmS, hm⟩ := bind_some hm
               refine RL_cut 4 (fun r' w' => Agr [(182, .bool b236)] r' ∧ Sep ok w w' [GRB b17 A1 cp2 A5 cp6 a0, GRB b19 A9 cp10 A13 cp14 a1, HNB b21 a2, HNB b23 a3, .hole, .hole, GRB b47 A37 cp38 A42 cp43 v35, .blk b59 79 [.slice A53 (units v51.1.Arena.Slots).length cp54, .slice A56 (v51.1.Kids.map units).length cp57], HNB b61 v51.2.1, GRB b74 A68 cp69 A71 cp72 v66.1, HNB b76 v66.2.1, .blk b89 79 [.slice A83 (units v81.1.Arena.Slots).length cp84, .slice A86 (v81.1.Kids.map units).length cp87], GRB b101 A95 cp96 A98 cp99 v93.1, .blk b113 79 [.slice A107 (units v105.1.Arena.Slots).length cp108, .slice A110 (v105.1.Kids.map units).length cp111], GRB b125 A119 cp120 A122 cp123 v117.1, .blk b137 79 [.slice A131 (units v129.1.Arena.Slots).length cp132, .slice A134 (v129.1.Kids.map units).length cp135], GRB b149 A143 cp144 A146 cp147 v141.1, .blk b161 79 [.slice A155 (units v153.Arena.Slots).length cp156, .slice A158 (v153.Kids.map units).length cp159]] [RDS A1 cp2 a0, RDK A5 cp6 a0, RDS A9 cp10 a1, RDK A13 cp14 a1, RDS A37 cp38 v35, RDK A42 cp43 v35]) ?_ ?_
               ·cases hbS : b233
                ·have hm := cond_f hbS hmS
                 refine RL_cons (OpR_off (by exact wn2 rfl rfl rfl rfl) (by rfl) (by rfl) ?_)
                 refine RL_cons (OpR_off (by exact wn2 rfl rfl rfl rfl) (by rfl) (by rfl) ?_)
                 refine RL_cons (OpR_off (by exact wn2 rfl rfl rfl rfl) (by rfl) (by rfl) ?_)
                 refine RL_p (x_pick_f (v := .bool false) (by rfl) (by rfl)) ?_
                 refine RL_nil ?_
                 exact ⟨⟨congrArg Value.bool (Option.some.inj hm), trivial⟩, H⟩
                ·have hm := cond_t hbS hmS
                 refine RL_pure (by exact wn1 rfl rfl rfl rfl) (by rfl) (by rfl) (x_loadA (j := 0) (vs := [.slice A37 v35.Arena.Slots.length cp38, .slice A42 v35.Kids.length cp43]) ag79 (by rfl) (H.cells (i := 6) (by rfl)) (by rfl) (by rfl)) ?_
                 refine RL_pure (by exact wn1 rfl rfl rfl rfl) (by rfl) (by rfl) (x_loadA (j := 0) (vs := [.slice A1 a0.Arena.Slots.length cp2, .slice A5 a0.Kids.length cp6]) ag79 (by rfl) (H.cells (i := 0) (by rfl)) (by rfl) (by rfl)) ?_
                 obtain ⟨v238, hv237, hm⟩ := bind_some hm
                 refine RL_cons (O_call (by exact wn1 rfl rfl rfl rfl) (by rfl) (by rfl) (x_callL (by rfl) (args := [.agg #[.slice A37 v35.Arena.Slots.length cp38, .slice A42 v35.Kids.length cp43], .agg #[.slice A1 a0.Arena.Slots.length cp2, .slice A5 a0.Kids.length cp6]]) (by rfl) (cf54 _ _)) (c54 okT K w235 v35 A37 cp38 A42 cp43 a0 A1 cp2 A5 cp6 (H.rd (i := 4) (by rfl)).any (H.rd (i := 5) (by rfl)).any (H.rd (i := 0) (by rfl)).any (H.rd (i := 1) (by rfl)).any v238 hv237) ?_)
                 rintro e w239 ⟨rfl, H2⟩
                 have H : Sep ok w w239 [GRB b17 A1 cp2 A5 cp6 a0, GRB b19 A9 cp10 A13 cp14 a1, HNB b21 a2, HNB b23 a3, .hole, .hole, GRB b47 A37 cp38 A42 cp43 v35, .blk b59 79 [.slice A53 (units v51.1.Arena.Slots).length cp54, .slice A56 (v51.1.Kids.map units).length cp57], HNB b61 v51.2.1, GRB b74 A68 cp69 A71 cp72 v66.1, HNB b76 v66.2.1, .blk b89 79 [.slice A83 (units v81.1.Arena.Slots).length cp84, .slice A86 (v81.1.Kids.map units).length cp87], GRB b101 A95 cp96 A98 cp99 v93.1, .blk b113 79 [.slice A107 (units v105.1.Arena.Slots).length cp108, .slice A110 (v105.1.Kids.map units).length cp111], GRB b125 A119 cp120 A122 cp123 v117.1, .blk b137 79 [.slice A131 (units v129.1.Arena.Slots).length cp132, .slice A134 (v129.1.Kids.map units).length cp135], GRB b149 A143 cp144 A146 cp147 v141.1, .blk b161 79 [.slice A155 (units v153.Arena.Slots).length cp156, .slice A158 (v153.Kids.map units).length cp159]] [RDS A1 cp2 a0, RDK A5 cp6 a0, RDS A9 cp10 a1, RDK A13 cp14 a1, RDS A37 cp38 v35, RDK A42 cp43 v35] := H.below H2.base
                 clear H2
                 refine ⟨_, rfl, ?_⟩
                 show RL _ _ _ _ _ _ _
                 refine RL_p (x_pick_t (v := .bool v238) (by rfl) (by rfl)) ?_
                 refine RL_nil ?_
                 exact ⟨⟨congrArg Value.bool (Option.some.inj hm), trivial⟩, H⟩
               ·rintro r' w' ⟨hA, H⟩
                obtain ⟨r240, rfl⟩ := regen _ hA; clear hA
                obtain ⟨w241, rfl⟩ : ∃ W : World, W = w' := ⟨_, rfl⟩
                show RL _ _ _ _ _ _ _
                refine RL_p (x_assign (v := .bool b236) (by rfl)) ?_
                refine RL_nil ?_
                refine W_ret ?_
                obtain rfl := Option.some.inj hm
                exact ⟨[.bool b236], (.tmp (by rfl) rfl), rfl, H.none_⟩
end Go.Proofs.YtobkigllalbkiaaV.M

/- Graphs, in plain Lean: what the document's own functions that change one tell; NodesTurn's model answers true. -/
set_option linter.unusedVariables false
set_option linter.unusedSimpArgs false
namespace Go.Proofs.YtobkigllalbkiaaV.M
open Go.RowKit Go.Proofs.YtobkigllalbkiaaV
open Classical
theorem m95_eq (K : Nat) (a : S_Arena) (hl : a.Slots.length ≤ 1000) : m95 K a = some a := by
  unfold m95
  rw [L.apds_in (by simp only [List.length_nil]; omega), List.nil_append]
theorem m48_eq {K : Nat} (hK : 1000 ≤ K) {g : S_Graph} (S : Small g) : m48 K g = some g := by
  have h1 := S.kids
  unfold m48
  rw [m95_eq K g.Arena (by have := S.slots; omega), Option.bind_some]
  refine L.loop (σ := List (List S_Handle) × Int) g.Kids.length (fun k s => m48_l1 K g g.Arena k s.1 s.2) (fun rec s => m48_l1b K g g.Arena (fun a b => rec (a, b)) s.1 s.2) (fun k => rfl)
    (fun i s => s = (g.Kids.take i, (i : Int))) (fun o => o = some g) ?_ ?_ K 0 ([], 0) (Nat.zero_le _) (by omega) rfl
  · rintro i s rec hi rfl hrec
    have g1 := L.lt_get hi
    generalize g.Kids[i] = l at g1
    have hl := S.rows i l g1
    show m48_l1b K g g.Arena (fun a b => rec (a, b)) (g.Kids.take i) (i : Int) = _
    unfold m48_l1b
    rw [L.dec_t hi, cond_true, L.idx_nat g1, L.apds_in (by simp only [List.length_nil]; omega), List.nil_append, L.apd_in (by rw [List.length_take]; omega), L.ck_succ (by omega)]
    exact hrec _ (by rw [take_succ_get g1])
  · rintro s rec rfl
    show m48_l1b K g g.Arena (fun a b => rec (a, b)) (g.Kids.take g.Kids.length) (g.Kids.length : Int) = _
    unfold m48_l1b
    rw [L.dec_f (Nat.lt_irrefl _), cond_false, List.take_length]
theorem findIdx_none {l : List S_Slot} (h : ∀ (j : Nat) (s : S_Slot), l[j]? = some s → freeS s = false) : l.findIdx? freeS = none := by
  rw [List.findIdx?_eq_none_iff]
  intro s hs
  obtain ⟨j, hj⟩ := List.mem_iff_getElem?.1 hs
  exact h j s hj
theorem findIdx_some {l : List S_Slot} {i : Nat} {s : S_Slot} (hi : l[i]? = some s) (hs : freeS s = true) (h : ∀ (j : Nat) (s : S_Slot), j < i → l[j]? = some s → freeS s = false) : l.findIdx? freeS = some i := by
  rw [List.findIdx?_eq_some_iff_getElem]
  obtain ⟨hl, rfl⟩ := List.getElem?_eq_some_iff.1 hi
  refine ⟨hl, hs, fun j hj => ?_⟩
  simp only [h j _ hj (L.lt_get (by omega)), Bool.false_eq_true, not_false_eq_true]
theorem m97_eq {K : Nat} (hK : 1000 ≤ K) {a : S_Arena} (hA : ArenaOK a) : m97 K a = some (outA (mkA a.Slots)) := by
  have h128 := hA.1
  unfold m97
  rw [m127_eq hK (by omega), Option.bind_some, decide_eq_true hA, Bool.not_true, cond_false, m95_eq K a (by omega), Option.bind_some]
  refine L.loop (σ := Int) a.Slots.length (fun k s => m97_l1 K a k s) (fun rec s => m97_l1b K a rec s) (fun k => rfl)
    (fun i s => s = (i : Int) ∧ ∀ (j : Nat) (s : S_Slot), j < i → a.Slots[j]? = some s → freeS s = false) (fun o => o = some (outA (mkA a.Slots))) ?_ ?_ K 0 0 (Nat.zero_le _) (by omega) ⟨rfl, fun j l hj => absurd hj (Nat.not_lt_zero _)⟩
  · rintro i y rec hi ⟨rfl, hI⟩ hr
    have gs := L.lt_get hi
    generalize a.Slots[i] = s at gs
    have hG := hA.2 s (List.mem_iff_getElem?.2 ⟨i, gs⟩)
    unfold m97_l1b
    rw [L.dec_t hi, cond_true, L.idx_nat gs, L.idx_nat gs]
    have e : (bif (!s.Live) then some (decide (s.Gen < 1073741824)) else some false) = some (freeS s) := by unfold freeS; cases s.Live <;> rfl
    rw [e, Option.bind_some]
    cases hf : freeS s with
    | true =>
      have hset : (a.Slots.set i (⟨s.Gen, true⟩ : S_Slot))[i]? = some ⟨s.Gen, true⟩ := List.getElem?_set_self hi
      have hset2 : ((a.Slots.set i (⟨s.Gen, true⟩ : S_Slot)).set i (⟨s.Gen + 1, true⟩ : S_Slot))[i]? = some ⟨s.Gen + 1, true⟩ := List.getElem?_set_self (by rw [List.length_set]; exact hi)
      rw [cond_true, L.idx_nat gs, L.lete_in, Int.toNat_natCast, L.idx_nat hset, L.ck_in (by simp only; omega) (by simp only; omega), L.idx_nat hset, L.lete_in]
      simp only
      rw [L.idx_nat hset2, List.set_set]
      unfold mkA
      rw [findIdx_some gs hf hI]
      simp only [gs, Option.map_some]
      rfl
    | false =>
      rw [cond_false, L.ck_succ (by omega)]
      refine hr _ ⟨rfl, fun j t hj ht => ?_⟩
      by_cases hji : j = i
      · subst hji
        rw [gs] at ht; cases ht; exact hf
      · exact hI j t (by omega) ht
  · rintro y rec ⟨rfl, hI⟩
    unfold m97_l1b mkA
    rw [L.dec_f (Nat.lt_irrefl _), cond_false, findIdx_none fun j s hs => hI j s (List.getElem?_eq_some_iff.1 hs).1 hs]
    simp only
    by_cases h : a.Slots.length = 128
    · rw [if_pos h, h]; rfl
    · rw [if_neg h, show ((a.Slots.length : Int) == 128) = false by simp; omega, cond_false, L.apd_in (by omega)]
      rfl
theorem m49_eq {K : Nat} (hK : 1000 ≤ K) {g : S_Graph} (Sm : Small g) : m49 K g = some (mkG (decide (May g)) g) := by
  unfold m49 mkG
  rw [m96_eq hK Sm, Option.bind_some]
  by_cases hM : May g
  · have h128 := hM.arena.1
    have hlen := hM.len
    rw [decide_eq_true hM, Bool.not_true, cond_false, if_pos rfl, m97_eq hK hM.arena, Option.bind_some]
    cases hm : mkA g.Arena.Slots with
    | none => rfl
    | some x =>
      obtain ⟨l', h⟩ := x
      have hl := mkA_len hm
      show (bif ((0 : Int) != 0) then _ else _) = _
      rw [show ((0 : Int) != 0) = false from rfl, cond_false, m48_eq hK Sm, Option.bind_some]
      show (bif decide ((g.Kids.length : Int) < (l'.length : Int)) then _ else _) = _
      by_cases hlt : g.Kids.length < l'.length
      · have e : l'.length - g.Kids.length = 1 := by omega
        rw [decide_eq_true (by omega : (g.Kids.length : Int) < (l'.length : Int)), cond_true, L.apd_in (by omega)]
        simp only [e]
        rfl
      · have e : l'.length - g.Kids.length = 0 := by omega
        rw [decide_eq_false (by omega : ¬ (g.Kids.length : Int) < (l'.length : Int)), cond_false]
        simp only [e, List.replicate_zero, List.append_nil]
        rfl
  · rw [decide_eq_false hM]; rfl
theorem m100_eq {K : Nat} (hK : 1000 ≤ K) (l : List S_Handle) (h : S_Handle) (hl : l.length ≤ 900) : m100 K l h = some (l.filter fun x => !eqH h x) := by
  refine L.loop (σ := List S_Handle × Int) l.length (fun k s => m100_l1 K l h k s.1 s.2) (fun rec s => m100_l1b K l h (fun a b => rec (a, b)) s.1 s.2) (fun k => rfl)
    (fun i s => s = ((l.take i).filter (fun x => !eqH h x), (i : Int))) (fun o => o = some (l.filter fun x => !eqH h x)) ?_ ?_ K 0 ([], 0) (Nat.zero_le _) (by omega) rfl
  · rintro i s rec hi rfl hr
    have gx := L.lt_get hi
    generalize l[i] = x at gx
    show m100_l1b K l h (fun a b => rec (a, b)) ((l.take i).filter fun x => !eqH h x) (i : Int) = _
    have e : (!((x.Slot == h.Slot) && (x.Gen == h.Gen))) = !eqH h x := rfl
    have hlt : ((l.take i).filter fun x => !eqH h x).length ≤ 900 := by
      refine Nat.le_trans (List.length_filter_le _ _) ?_
      rw [List.length_take]; omega
    unfold m100_l1b
    rw [L.dec_t hi, cond_true, L.idx_nat gx, e]
    cases hq : (!eqH h x) with
    | true =>
      rw [cond_true, L.idx_nat gx, L.apd_in (by omega), L.ck_succ (by omega)]
      refine hr _ ?_
      rw [take_succ_get gx, List.filter_append]
      simp [hq]
    | false =>
      rw [cond_false, L.ck_succ (by omega)]
      refine hr _ ?_
      rw [take_succ_get gx, List.filter_append]
      simp [hq]
  · rintro s rec rfl
    show m100_l1b K l h (fun a b => rec (a, b)) ((l.take l.length).filter fun x => !eqH h x) (l.length : Int) = _
    unfold m100_l1b
    rw [L.dec_f (Nat.lt_irrefl _), cond_false, List.take_length]
theorem m99_eq {K : Nat} (hK : 1000 ≤ K) {a : S_Arena} {h : S_Handle} (hA : ArenaOK a) (hH : HeldA a h) : m99 K a h = some (⟨killA a.Slots h⟩, 0) := by
  have h128 := hA.1
  obtain ⟨h0, s, g1, e1, e2⟩ := id hH
  unfold m99 killA
  rw [m127_eq hK (by omega), Option.bind_some, decide_eq_true hA, Bool.not_true, cond_false, m128_eq, Option.bind_some, decide_eq_true hH, Bool.not_true, cond_false, m95_eq K a (by omega), Option.bind_some, L.idx_in h0 g1, L.lete_in, e1]
theorem set_map_take {l : List (List S_Handle)} {i : Nat} {x : List S_Handle} (f : List S_Handle → List S_Handle) (h : l[i]? = some x) : ((l.take i).map f ++ l.drop i).set i (f x) = (l.take (i + 1)).map f ++ l.drop (i + 1) := by
  obtain ⟨hl, rfl⟩ := List.getElem?_eq_some_iff.1 h
  rw [List.set_append_right _ _ (by simp; omega), take_succ_get h, List.map_append, List.drop_eq_getElem_cons hl]
  have : i - ((l.take i).map f).length = 0 := by simp; omega
  rw [this, List.set_cons_zero, List.append_assoc]
  rfl
theorem m50_eq {K : Nat} (hK : 1000 ≤ K) {g : S_Graph} (Sm : Small g) (h : S_Handle) : m50 K g h = some (killG (decide (May g)) (decide (HeldA g.Arena h)) g h) := by
  have s1 := Sm.kids
  unfold m50 killG
  rw [m98_eq hK Sm, Option.bind_some]
  by_cases hM : May g
  · rw [if_pos hM, decide_eq_true hM, if_pos rfl]
    by_cases hH : HeldA g.Arena h
    · have h16 : ∀ (j : Nat) (l : List S_Handle), g.Kids[j]? = some l → l.length ≤ 16 := fun j l hl => (hM.rows j l hl).1
      obtain ⟨h0, gk⟩ := kids_get hM.toShape hH
      have hkl := (List.getElem?_eq_some_iff.1 gk).1
      rw [if_pos ⟨hH, hH⟩, decide_eq_true hH, if_pos rfl, show ((0 : Int) != 0) = false from rfl, cond_false, m48_eq hK Sm, Option.bind_some, m99_eq hK hM.arena hH, Option.bind_some]
      refine L.loop (σ := List (List S_Handle) × Int) g.Kids.length (fun k s => m50_l1 K h (⟨killA g.Arena.Slots h⟩, 0) k s.1 s.2) (fun rec s => m50_l1b K h (⟨killA g.Arena.Slots h⟩, 0) (fun a b => rec (a, b)) s.1 s.2) (fun k => rfl)
        (fun i s => s = ((g.Kids.take i).map (fun l => l.filter fun x => !eqH h x) ++ g.Kids.drop i, (i : Int))) (fun o => o = some ((⟨⟨killA g.Arena.Slots h⟩, (g.Kids.set h.Slot.toNat []).map (fun l => l.filter fun x => !eqH h x)⟩ : S_Graph), 0)) ?_ ?_ K 0 (g.Kids, 0) (Nat.zero_le _) (by omega) (by simp)
      · rintro i s rec hi rfl hr
        have gl := L.lt_get hi
        generalize g.Kids[i] = l at gl
        have hget : ((g.Kids.take i).map (fun l => l.filter fun x => !eqH h x) ++ g.Kids.drop i)[i]? = some l := by
          have e : ((g.Kids.take i).map (fun l => l.filter fun x => !eqH h x)).length = i := by simp; omega
          rw [List.getElem?_append_right (by omega), e, Nat.sub_self, List.getElem?_drop]; simpa using gl
        have hlen : ((g.Kids.take i).map (fun l => l.filter fun x => !eqH h x) ++ g.Kids.drop i).length = g.Kids.length := by simp; omega
        show m50_l1b K h (⟨killA g.Arena.Slots h⟩, 0) (fun a b => rec (a, b)) ((g.Kids.take i).map (fun l => l.filter fun x => !eqH h x) ++ g.Kids.drop i) (i : Int) = _
        unfold m50_l1b
        rw [hlen, L.dec_t hi, cond_true, L.idx_nat hget, m100_eq hK l h (by have := h16 i l gl; omega), Option.bind_some, L.idx_nat hget, L.lete_in, Int.toNat_natCast, L.ck_succ (by omega), set_map_take (fun l => l.filter fun x => !eqH h x) gl]
        exact hr _ rfl
      · rintro s rec rfl
        show m50_l1b K h (⟨killA g.Arena.Slots h⟩, 0) (fun a b => rec (a, b)) ((g.Kids.take g.Kids.length).map (fun l => l.filter fun x => !eqH h x) ++ g.Kids.drop g.Kids.length) (g.Kids.length : Int) = _
        have e : (g.Kids.take g.Kids.length).map (fun l => l.filter fun x => !eqH h x) ++ g.Kids.drop g.Kids.length = g.Kids.map (fun l => l.filter fun x => !eqH h x) := by simp
        rw [e]
        unfold m50_l1b
        rw [List.length_map, L.dec_f (Nat.lt_irrefl _), cond_false, L.idx_in (a := (kids g h).filter fun x => !eqH h x) h0 (by rw [List.getElem?_map, gk]; rfl), L.lete_in, List.map_set]
        rfl
    · rw [if_neg fun q => hH q.1, decide_eq_false hH]; rfl
  · rw [if_neg hM, decide_eq_false hM]; rfl
theorem m51_eq {K : Nat} (hK : 1000 ≤ K) {g : S_Graph} (Sm : Small g) (p c : S_Handle) (at_ : Int) : m51 K g p c at_ = some (linkG (decide (May g)) (decide (HeldA g.Arena p ∧ HeldA g.Arena c)) (decide (Reach g c p)) g p c at_) := by
  have s1 := Sm.kids
  unfold m51 linkG
  rw [m98_eq hK Sm, Option.bind_some]
  by_cases hM : May g
  · rw [if_pos hM, decide_eq_true hM, if_pos rfl]
    by_cases hH : HeldA g.Arena p ∧ HeldA g.Arena c
    · obtain ⟨h0, g1⟩ := kids_get hM.toShape hH.1
      obtain ⟨c0, gc⟩ := kids_get hM.toShape hH.2
      have hcl := (List.getElem?_eq_some_iff.1 gc).1
      have hpl := (List.getElem?_eq_some_iff.1 g1).1
      have h16 := (hM.rows _ _ g1).1
      rw [if_pos hH, decide_eq_true hH, if_pos rfl, show ((0 : Int) != 0) = false from rfl, cond_false, L.idx_in h0 g1]
      by_cases c1 : at_ < 0
      · rw [decide_eq_true c1, cond_true, Option.bind_some, cond_true, if_pos (.inl c1)]; rfl
      · rw [decide_eq_false c1, cond_false, Option.bind_some]
        by_cases c2 : ((kids g p).length : Int) < at_
        · rw [decide_eq_true c2, cond_true, if_pos (.inr c2)]; rfl
        · rw [decide_eq_false c2, cond_false, if_neg (by omega)]
          by_cases hf : 16 ≤ (kids g p).length
          · rw [decide_eq_true (by omega : (16 : Int) ≤ ((kids g p).length : Int)), cond_true, if_pos hf]; rfl
          · rw [decide_eq_false (by omega : ¬ (16 : Int) ≤ ((kids g p).length : Int)), cond_false, if_neg hf]
            obtain ⟨o, ho, hol, hoj⟩ := m101_eq hK hM.toShape.whole (by omega) (fun j l hl => by have := (hM.rows j l hl).1; omega) hcl
            rw [Int.toNat_of_nonneg c0] at ho
            have hbit := hoj p.Slot.toNat hpl
            rw [ho, Option.bind_some, L.idx_in h0 hbit]
            by_cases hR : Reach g c p
            · rw [decide_eq_true hR, decide_eq_true ((reach_iff hM.toShape.whole hH.2 hH.1).1 hR), cond_true]; rfl
            · rw [decide_eq_false hR, decide_eq_false fun q => hR ((reach_iff hM.toShape.whole hH.2 hH.1).2 q), cond_false, if_neg (by simp), m48_eq hK Sm, Option.bind_some, L.slg_in (by omega) (by omega),
                L.apds_in (by rw [List.length_nil, List.length_take]; omega), List.nil_append, L.apd_in (by rw [List.length_take]; omega), L.slg_in (by omega) (by omega), L.apds_in (by simp only [List.length_append, List.length_take, List.length_drop, List.length_singleton]; omega),
                L.idx_in h0 g1, L.lete_in, List.append_assoc]
              rfl
    · rw [if_neg hH, decide_eq_false hH]; rfl
  · rw [if_neg hM, decide_eq_false hM]; rfl
theorem m52_eq {K : Nat} (hK : 1000 ≤ K) {g : S_Graph} (Sm : Small g) (p : S_Handle) (at_ : Int) : m52 K g p at_ = some (unlinkG (decide (May g)) (decide (HeldA g.Arena p)) g p at_) := by
  unfold m52 unlinkG
  rw [m98_eq hK Sm, Option.bind_some]
  by_cases hM : May g
  · rw [if_pos hM, decide_eq_true hM, if_pos rfl]
    by_cases hH : HeldA g.Arena p
    · obtain ⟨h0, g1⟩ := kids_get hM.toShape hH
      have h16 := (hM.rows _ _ g1).1
      rw [if_pos ⟨hH, hH⟩, decide_eq_true hH, if_pos rfl, show ((0 : Int) != 0) = false from rfl, cond_false, L.idx_in h0 g1]
      by_cases c1 : at_ < 0
      · rw [decide_eq_true c1, cond_true, Option.bind_some, cond_true, if_pos (.inl c1)]; rfl
      · rw [decide_eq_false c1, cond_false, Option.bind_some]
        by_cases c2 : ((kids g p).length : Int) ≤ at_
        · rw [decide_eq_true c2, cond_true, if_pos (.inr c2)]; rfl
        · rw [decide_eq_false c2, cond_false, if_neg (by omega), m48_eq hK Sm, Option.bind_some, L.slg_in (by omega) (by omega), L.apds_in (by rw [List.length_nil, List.length_take]; omega), List.nil_append, L.ck_in (by omega) (by omega),
            L.slg_in (by omega) (by omega), L.apds_in (by simp only [List.length_take, List.length_drop]; omega), L.idx_in h0 g1, L.lete_in]
    · rw [if_neg fun q => hH q.1, decide_eq_false hH]; rfl
  · rw [if_neg hM, decide_eq_false hM]; rfl
theorem m55_eq {K : Nat} (hK : 1000 ≤ K) {g : S_Graph} (Sm : Small g) : m55 K g = some (if May g then 0 else 8) := by
  unfold m55
  rw [m96_eq hK Sm, Option.bind_some]
  by_cases hM : May g
  · rw [decide_eq_true hM, if_pos hM]; rfl
  · rw [decide_eq_false hM, if_neg hM]; rfl
/-! ### comparisons -/
theorem eq_loop {α : Type} [DecidableEq α] (K : Nat) (a b : List α) (hlen : a.length = b.length) (hK : a.length < K) (h9 : a.length ≤ 900) (F : Nat → Int → Option Bool) (body : (Int → Option Bool) → Int → Option Bool) (hF : ∀ k, F (k + 1) = body (F k))
    (hstep : ∀ (i : Nat) (x y : α) rec, i < a.length → a[i]? = some x → b[i]? = some y → body rec i = bif (!decide (x = y)) then some false else ck ((i : Int) + 1) rec) (hend : ∀ rec, body rec (a.length : Nat) = some true) : F K 0 = some (decide (a = b)) := by
  refine L.loop (σ := Int) a.length F body hF (fun i s => s = (i : Int) ∧ ∀ j : Nat, j < i → a[j]? = b[j]?) (fun o => o = some (decide (a = b))) ?_ ?_ K 0 0 (Nat.zero_le _) (by omega) ⟨rfl, fun j hj => absurd hj (Nat.not_lt_zero _)⟩
  · rintro i y rec hi ⟨rfl, hI⟩ hr
    have gx := L.lt_get hi
    have gy := L.lt_get (l := b) (i := i) (by omega)
    generalize a[i] = x at gx
    generalize b[i]'(by omega) = y at gy
    rw [hstep i x y rec hi gx gy]
    by_cases he : x = y
    · rw [decide_eq_true he, Bool.not_true, cond_false, L.ck_succ (by omega)]
      refine hr _ ⟨rfl, fun j hj => ?_⟩
      by_cases hji : j = i
      · subst hji; rw [gx, gy, he]
      · exact hI j (by omega)
    · rw [decide_eq_false he, Bool.not_false, cond_true, decide_eq_false]
      rintro rfl
      rw [gx] at gy; exact he (Option.some.inj gy)
  · rintro y rec ⟨rfl, hI⟩
    rw [hend, decide_eq_true]
    refine List.ext_getElem? fun j => ?_
    rcases Nat.lt_or_ge j a.length with h | h
    · exact hI j h
    · rw [List.getElem?_eq_none h, List.getElem?_eq_none (by omega)]
theorem slot_eq (x y : S_Slot) : ((x.Gen == y.Gen) && (x.Live == y.Live)) = decide (x = y) := by
  cases x; cases y
  simp only [S_Slot.mk.injEq]
  rw [Bool.eq_iff_iff]; simp
theorem hand_eq (x y : S_Handle) : ((x.Slot == y.Slot) && (x.Gen == y.Gen)) = decide (x = y) := by
  cases x; cases y
  simp only [S_Handle.mk.injEq]
  rw [Bool.eq_iff_iff]; simp
theorem len_ne {α : Type} {a b : List α} (h : ¬ a.length = b.length) : ((a.length : Int) != (b.length : Int)) = true := by simp; omega
theorem len_eq {α : Type} {a b : List α} (h : a.length = b.length) : ((a.length : Int) != (b.length : Int)) = false := by simp [h]
theorem m104_eq {K : Nat} (hK : 1000 ≤ K) (a b : List S_Handle) (ha : a.length ≤ 900) : m104 K a b = some (decide (a = b)) := by
  unfold m104
  by_cases hl : a.length = b.length
  · rw [len_eq hl, cond_false]
    refine eq_loop K a b hl (by omega) ha (m104_l1 K a b) (m104_l1b K a b) (fun k => rfl) (fun i x y rec hi hx hy => ?_) fun rec => ?_
    · unfold m104_l1b; rw [L.dec_t hi, cond_true, L.idx_nat hx, L.idx_nat hy, hand_eq]
    · unfold m104_l1b; rw [L.dec_f (Nat.lt_irrefl _), cond_false]
  · rw [len_ne hl, cond_true, decide_eq_false]; rintro rfl; exact hl rfl
theorem m108_eq {K : Nat} (hK : 1000 ≤ K) (a b : List S_Handle) (ha : a.length ≤ 900) : m108 K a b = some (decide (a = b)) := by
  unfold m108
  by_cases hl : a.length = b.length
  · rw [len_eq hl, cond_false]
    refine eq_loop K a b hl (by omega) ha (m108_l1 K a b) (m108_l1b K a b) (fun k => rfl) (fun i x y rec hi hx hy => ?_) fun rec => ?_
    · unfold m108_l1b; rw [L.dec_t hi, cond_true, L.idx_nat hx, L.idx_nat hy, hand_eq]
    · unfold m108_l1b; rw [L.dec_f (Nat.lt_irrefl _), cond_false]
  · rw [len_ne hl, cond_true, decide_eq_false]; rintro rfl; exact hl rfl
theorem m103_eq {K : Nat} (hK : 1000 ≤ K) (a b : S_Arena) (ha : a.Slots.length ≤ 900) : m103 K a b = some (decide (a.Slots = b.Slots)) := by
  unfold m103
  by_cases hl : a.Slots.length = b.Slots.length
  · rw [len_eq hl, cond_false]
    refine eq_loop K a.Slots b.Slots hl (by omega) ha (m103_l1 K a b) (m103_l1b K a b) (fun k => rfl) (fun i x y rec hi hx hy => ?_) fun rec => ?_
    · unfold m103_l1b; rw [L.dec_t hi, cond_true, L.idx_nat hx, L.idx_nat hy, slot_eq]
    · unfold m103_l1b; rw [L.dec_f (Nat.lt_irrefl _), cond_false]
  · rw [len_ne hl, cond_true, decide_eq_false]; intro h; exact hl (by rw [h])
theorem m130_eq {K : Nat} (hK : 1000 ≤ K) (a b : List S_Slot) (ha : a.length ≤ 900) : m130 K a b = some (decide (a = b)) := by
  unfold m130
  by_cases hl : a.length = b.length
  · rw [len_eq hl, cond_false]
    refine eq_loop K a b hl (by omega) ha (m130_l1 K a b) (m130_l1b K a b) (fun k => rfl) (fun i x y rec hi hx hy => ?_) fun rec => ?_
    · unfold m130_l1b; rw [L.dec_t hi, cond_true, L.idx_nat hx, L.idx_nat hy, slot_eq]
    · unfold m130_l1b; rw [L.dec_f (Nat.lt_irrefl _), cond_false]
  · rw [len_ne hl, cond_true, decide_eq_false]; rintro rfl; exact hl rfl
theorem m106_eq {K : Nat} (hK : 1000 ≤ K) (a b : List (List S_Handle)) (ha : a.length ≤ 900) (hr : ∀ (j : Nat) (l : List S_Handle), a[j]? = some l → l.length ≤ 900) : m106 K a b = some (decide (a = b)) := by
  unfold m106
  by_cases hl : a.length = b.length
  · rw [len_eq hl, cond_false]
    refine eq_loop K a b hl (by omega) ha (m106_l1 K a b) (m106_l1b K a b) (fun k => rfl) (fun i x y rec hi hx hy => ?_) fun rec => ?_
    · unfold m106_l1b m107
      rw [L.dec_t hi, cond_true, L.idx_nat hx, L.idx_nat hy, m108_eq hK x y (hr i x hx), Option.bind_some, Option.bind_some]
    · unfold m106_l1b; rw [L.dec_f (Nat.lt_irrefl _), cond_false]
  · rw [len_ne hl, cond_true, decide_eq_false]; rintro rfl; exact hl rfl
theorem graph_iff (a b : S_Graph) : a = b ↔ a.Arena.Slots = b.Arena.Slots ∧ a.Kids = b.Kids := by
  obtain ⟨⟨s⟩, k⟩ := a
  obtain ⟨⟨t⟩, l⟩ := b
  simp
theorem m54_eq {K : Nat} (hK : 1000 ≤ K) {a : S_Graph} (b : S_Graph) (h1 : a.Arena.Slots.length ≤ 900) (h2 : a.Kids.length ≤ 900) (h3 : ∀ (j : Nat) (l : List S_Handle), a.Kids[j]? = some l → l.length ≤ 900) : m54 K a b = some (decide (a = b)) := by
  unfold m54
  rw [m103_eq hK a.Arena b.Arena h1, Option.bind_some]
  by_cases hs : a.Arena.Slots = b.Arena.Slots
  · rw [decide_eq_true hs, Bool.not_true, cond_false, Option.bind_some]
    by_cases hl : a.Kids.length = b.Kids.length
    · rw [len_eq hl, cond_false]
      have : m54_l1 K a b K 0 = some (decide (a.Kids = b.Kids)) := by
        refine eq_loop K a.Kids b.Kids hl (by omega) h2 (m54_l1 K a b) (m54_l1b K a b) (fun k => rfl) (fun i x y rec hi hx hy => ?_) fun rec => ?_
        · unfold m54_l1b; rw [L.dec_t hi, cond_true, L.idx_nat hx, L.idx_nat hy, m104_eq hK x y (h3 i x hx), Option.bind_some]
        · unfold m54_l1b; rw [L.dec_f (Nat.lt_irrefl _), cond_false]
      rw [this]
      congr 1
      rw [decide_eq_decide, graph_iff]
      exact ⟨fun h => ⟨hs, h⟩, fun h => h.2⟩
    · rw [len_ne hl, cond_true, decide_eq_false]; rintro rfl; exact hl rfl
  · rw [decide_eq_false hs, Bool.not_false, cond_true, Option.bind_some, cond_true, decide_eq_false]; rintro rfl; exact hs rfl
theorem m56_eq {K : Nat} (hK : 1000 ≤ K) {a : S_Graph} (b : S_Graph) (h1 : a.Arena.Slots.length ≤ 900) (h2 : a.Kids.length ≤ 900) (h3 : ∀ (j : Nat) (l : List S_Handle), a.Kids[j]? = some l → l.length ≤ 900) : m56 K a b = some (decide (a = b)) := by
  unfold m56 m105
  rw [m130_eq hK a.Arena.Slots b.Arena.Slots h1, Option.bind_some, Option.bind_some]
  by_cases hs : a.Arena.Slots = b.Arena.Slots
  · rw [decide_eq_true hs, cond_true, m106_eq hK a.Kids b.Kids h2 h3, Option.bind_some, Option.bind_some]
    congr 1
    rw [decide_eq_decide, graph_iff]
    exact ⟨fun h => ⟨hs, h⟩, fun h => h.2⟩
  · rw [decide_eq_false hs, cond_false, Option.bind_some, decide_eq_false]; rintro rfl; exact hs rfl
end Go.Proofs.YtobkigllalbkiaaV.M

/- NodesTurn, in plain Lean: its model answers true. -/
set_option linter.unusedVariables false
set_option linter.unusedSimpArgs false
namespace Go.Proofs.YtobkigllalbkiaaV.M
open Go.RowKit Go.Proofs.YtobkigllalbkiaaV
open Classical
/-- Small enough to be compared. -/
structure Cmp (g : S_Graph) : Prop where
  slots : g.Arena.Slots.length ≤ 900
  kids : g.Kids.length ≤ 900
  rows : ∀ (j : Nat) (l : List S_Handle), g.Kids[j]? = some l → l.length ≤ 900
theorem cmp_noG : Cmp noG := ⟨by decide, by decide, fun j l h => by simp [noG] at h⟩
theorem cmp_may {g : S_Graph} (hM : May g) : Cmp g := ⟨by have := hM.arena.1; omega, by have := hM.arena.1; have := hM.len; omega, fun j l hl => by have := (hM.rows j l hl).1; omega⟩
theorem mkG_cmp (g : S_Graph) : Cmp (mkG (decide (May g)) g).1 := by
  by_cases hM : May g
  · unfold mkG
    rw [decide_eq_true hM, if_pos rfl]
    cases hmk : mkA g.Arena.Slots with
    | none => exact cmp_noG
    | some x => exact cmp_may (mk_may hM hmk)
  · unfold mkG
    rw [decide_eq_false hM]; exact cmp_noG
theorem killG_cmp (g : S_Graph) (h : S_Handle) : Cmp (killG (decide (May g)) (decide (HeldA g.Arena h)) g h).1 := by
  unfold killG
  by_cases hM : May g
  · rw [decide_eq_true hM, if_pos rfl]
    by_cases hH : HeldA g.Arena h
    · rw [decide_eq_true hH, if_pos rfl]
      exact cmp_may (kill_may hM hH)
    · rw [decide_eq_false hH]; exact cmp_noG
  · rw [decide_eq_false hM]; exact cmp_noG
theorem linkG_cmp (g : S_Graph) (p c : S_Handle) (at_ : Int) : Cmp (linkG (decide (May g)) (decide (HeldA g.Arena p ∧ HeldA g.Arena c)) (decide (Reach g c p)) g p c at_).1 := by
  unfold linkG
  by_cases hM : May g
  · rw [decide_eq_true hM, if_pos rfl]
    by_cases hH : HeldA g.Arena p ∧ HeldA g.Arena c
    · rw [decide_eq_true hH, if_pos rfl]
      split
      · exact cmp_noG
      · split
        · exact cmp_noG
        · by_cases hR : Reach g c p
          · rw [decide_eq_true hR]; exact cmp_noG
          · rw [decide_eq_false hR, if_neg (by simp)]
            exact cmp_may (link_may hM hH.1 hH.2 _ (by omega) hR)
    · rw [decide_eq_false hH]; exact cmp_noG
  · rw [decide_eq_false hM]; exact cmp_noG
theorem unlinkG_cmp (g : S_Graph) (p : S_Handle) (at_ : Int) : Cmp (unlinkG (decide (May g)) (decide (HeldA g.Arena p)) g p at_).1 := by
  unfold unlinkG
  by_cases hM : May g
  · rw [decide_eq_true hM, if_pos rfl]
    by_cases hH : HeldA g.Arena p
    · rw [decide_eq_true hH, if_pos rfl]
      split
      · exact cmp_noG
      · exact cmp_may (unlink_may hM hH _ _ (by omega))
    · rw [decide_eq_false hH]; exact cmp_noG
  · rw [decide_eq_false hM]; exact cmp_noG
theorem m54_self {K : Nat} (hK : 1000 ≤ K) {g : S_Graph} (h : Cmp g) : m54 K g g = some true := by
  rw [m54_eq hK g h.slots h.kids h.rows, decide_eq_true rfl]
theorem m10_true {K : Nat} (hK : 1000 ≤ K) (g o : S_Graph) (h i : S_Handle) (at_ : Int) (hg : RowsB g) (ho : RowsB o) : m10 K g o h i at_ = some true := by
  unfold m10
  obtain ⟨b1, e1, q1⟩ := m44_eq hK g hg
  rw [e1, Option.bind_some]
  cases b1 with
  | true => rfl
  | false =>
    obtain ⟨b2, e2, q2⟩ := m44_eq hK o ho
    rw [cond_false, e2, Option.bind_some, Option.bind_some]
    cases b2 with
    | true => rfl
    | false =>
      have S := q1 rfl
      have C : Cmp g := ⟨by have := S.slots; omega, by have := S.kids; omega, fun j l hl => ?_⟩
      · rw [cond_false, m48_eq hK S, Option.bind_some, m45_eq hK, Option.bind_some, m49_eq hK S, Option.bind_some, m40_eq hK, Option.bind_some, m50_eq hK S, Option.bind_some, m38_eq hK, Option.bind_some, m51_eq hK S, Option.bind_some, m41_eq hK, Option.bind_some, m52_eq hK S, Option.bind_some, m53_eq hK S, Option.bind_some,
          m54_self hK (mkG_cmp g), Option.bind_some, cond_true, Option.bind_some, beq_self_eq_true, beq_self_eq_true, Bool.and_self, cond_true, Option.bind_some, beq_self_eq_true, cond_true, m54_self hK (killG_cmp g h), Option.bind_some, Option.bind_some, cond_true, Option.bind_some, beq_self_eq_true, cond_true,
          m54_self hK (linkG_cmp g h i at_), Option.bind_some, Option.bind_some, cond_true, Option.bind_some, beq_self_eq_true, cond_true, m54_self hK (unlinkG_cmp g h at_), Option.bind_some, Option.bind_some, cond_true, Option.bind_some, beq_self_eq_true, m43_eq hK, Option.bind_some, m55_eq hK S, Option.bind_some,
          beq_self_eq_true, cond_true, m54_self hK C, Option.bind_some, Option.bind_some, cond_true, m56_eq hK o C.slots C.kids C.rows, Option.bind_some, m54_eq hK o C.slots C.kids C.rows, Option.bind_some, Option.bind_some, beq_self_eq_true, cond_true, m56_eq hK g C.slots C.kids C.rows, Option.bind_some, decide_eq_true rfl,
          Option.bind_some, cond_true, Option.bind_some, cond_true, Option.bind_some]
      · exact S.rows j l hl
end Go.Proofs.YtobkigllalbkiaaV.M

set_option linter.unusedVariables false
namespace Go.Proofs.Ytobkigllalbkiaa.NodesTurnLaw
open Go.ChangeShapes Go.WideShapes Go.ChangeAt Go.RowKit Go.Proofs.YtobkigllalbkiaaV Go.Proofs.YtobkigllalbkiaaV.M

theorem op3 : Opn Try.prog 3 kInt := Opn.int (by kernel_rfl) (by kernel_rfl)
theorem op4 : Opn Try.prog 4 kBool := Opn.bool (by kernel_rfl) (by kernel_rfl)
theorem op96 : Opn Try.prog 96 k_Slot where
  sz := by kernel_rfl
  down := fun {H enc w fuel cs x} h => by
    have hlen := trod_len (n := 2) (by kernel_rfl) (by kernel_rfl) h
    match cs, hlen, h with
    | [v0, v1], _, h =>
      obtain ⟨n0, y0, t0⟩ := trod_field (i := 0) (T := 3) (off := 0) (sz := 1) (by kernel_rfl) h
      obtain ⟨a0, h0⟩ := op3.down t0
      have h0 : [v0] = [.int .i64 a0] := h0
      simp only [List.cons.injEq, and_true] at h0
      obtain rfl := h0
      obtain ⟨n1, y1, t1⟩ := trod_field (i := 1) (T := 4) (off := 1) (sz := 1) (by kernel_rfl) h
      obtain ⟨a1, h1⟩ := op4.down t1
      have h1 : [v1] = [.bool a1] := h1
      simp only [List.cons.injEq, and_true] at h1
      obtain rfl := h1
      exact ⟨(⟨a0, a1⟩ : S_Slot), rfl⟩
abbrev Q74 : (List S_Slot) → Prop := fun l => l.length * 16 ≤ reachBytes ∧ ∀ x ∈ l, (fun _ => True) x
theorem op74 : OpnZ Try.prog 74 (Kd.slice k_Slot) Q74 := OpnZ.slice (by kernel_rfl) (by kernel_rfl) op96.z (by show 0 < 2; omega) (by kernel_rfl)
abbrev Q76 : S_Arena → Prop := fun a => Q74 a.Slots
theorem op76 : OpnZ Try.prog 76 k_Arena Q76 where
  sz := by kernel_rfl
  down := fun {H enc w fuel cs x} h hwt => by
    have hlen := trod_len (n := 1) (by kernel_rfl) (by kernel_rfl) h
    match cs, hlen, h with
    | [v0], _, h =>
      obtain ⟨n0, y0, t0, w0⟩ := trod_fieldZ (i := 0) (T := 74) (off := 0) (sz := 1) (by kernel_rfl) h hwt
      obtain ⟨a0, h0, q0⟩ := (op74).down t0 w0
      obtain ⟨A0_0, c0_0, h0, hR0_0⟩ := h0
      have h0 : [v0] = [.slice A0_0 a0.length c0_0] := h0
      simp only [List.cons.injEq, and_true] at h0
      obtain rfl := h0
      exact ⟨(⟨a0⟩ : S_Arena), ⟨A0_0, c0_0, rfl, hR0_0⟩, q0⟩
theorem op81 : Opn Try.prog 81 k_Handle where
  sz := by kernel_rfl
  down := fun {H enc w fuel cs x} h => by
    have hlen := trod_len (n := 2) (by kernel_rfl) (by kernel_rfl) h
    match cs, hlen, h with
    | [v0, v1], _, h =>
      obtain ⟨n0, y0, t0⟩ := trod_field (i := 0) (T := 3) (off := 0) (sz := 1) (by kernel_rfl) h
      obtain ⟨a0, h0⟩ := op3.down t0
      have h0 : [v0] = [.int .i64 a0] := h0
      simp only [List.cons.injEq, and_true] at h0
      obtain rfl := h0
      obtain ⟨n1, y1, t1⟩ := trod_field (i := 1) (T := 3) (off := 1) (sz := 1) (by kernel_rfl) h
      obtain ⟨a1, h1⟩ := op3.down t1
      have h1 : [v1] = [.int .i64 a1] := h1
      simp only [List.cons.injEq, and_true] at h1
      obtain rfl := h1
      exact ⟨(⟨a0, a1⟩ : S_Handle), rfl⟩
abbrev Q87 : (List S_Handle) → Prop := fun l => l.length * 16 ≤ reachBytes ∧ ∀ x ∈ l, (fun _ => True) x
theorem op87 : OpnZ Try.prog 87 (Kd.slice k_Handle) Q87 := OpnZ.slice (by kernel_rfl) (by kernel_rfl) op81.z (by show 0 < 2; omega) (by kernel_rfl)
abbrev Q77 : (List (List S_Handle)) → Prop := fun l => l.length * 24 ≤ reachBytes ∧ ∀ x ∈ l, Q87 x
theorem op77 : OpnZ Try.prog 77 (Kd.slice (Kd.slice k_Handle)) Q77 := OpnZ.slice (by kernel_rfl) (by kernel_rfl) op87 (by show 0 < 1; omega) (by kernel_rfl)
abbrev Q79 : S_Graph → Prop := fun a => Q76 a.Arena ∧ Q77 a.Kids
theorem op79 : OpnZ Try.prog 79 k_Graph Q79 where
  sz := by kernel_rfl
  down := fun {H enc w fuel cs x} h hwt => by
    have hlen := trod_len (n := 2) (by kernel_rfl) (by kernel_rfl) h
    match cs, hlen, h with
    | [v0, v1], _, h =>
      obtain ⟨n0, y0, t0, w0⟩ := trod_fieldZ (i := 0) (T := 76) (off := 0) (sz := 1) (by kernel_rfl) h hwt
      obtain ⟨a0, h0, q0⟩ := (op76).down t0 w0
      obtain ⟨A0_0, c0_0, h0, hR0_0⟩ := h0
      have h0 : [v0] = [.slice A0_0 a0.Slots.length c0_0] := h0
      simp only [List.cons.injEq, and_true] at h0
      obtain rfl := h0
      obtain ⟨n1, y1, t1, w1⟩ := trod_fieldZ (i := 1) (T := 77) (off := 1) (sz := 1) (by kernel_rfl) h hwt
      obtain ⟨a1, h1, q1⟩ := (op77).down t1 w1
      obtain ⟨A1_0, c1_0, h1, hR1_0⟩ := h1
      have h1 : [v1] = [.slice A1_0 a1.length c1_0] := h1
      simp only [List.cons.injEq, and_true] at h1
      obtain rfl := h1
      exact ⟨(⟨a0, a1⟩ : S_Graph), ⟨A0_0, c0_0, A1_0, c1_0, rfl, hR0_0, hR1_0⟩, q0, q1⟩
theorem own : ownKnob Try.prog.godebug = none := by kernel_rfl
theorem laidOut : laidOutB Try.prog = true := by kernel_rfl
theorem said (a0 : S_Graph) (a1 : S_Graph) (a2 : S_Handle) (a3 : S_Handle) (a4 : Int) (z0 : Q79 a0) (z1 : Q79 a1) : m10 1000 a0 a1 a2 a3 a4 = some true := (m10_true (by decide) a0 a1 a2 a3 a4 (fun l hl => by have := (z0.2.2 l hl).1; simp only [reachBytes] at this; omega) (fun l hl => by have := (z1.2.2 l hl).1; simp only [reachBytes] at this; omega))
theorem readable : ∀ t ∈ Try.f10.params.toList, Try.prog.readableRec t = true ∧ t < Try.prog.types.size := by
  rw [Try.params10]
  intro t ht
  simp only [List.mem_cons, List.not_mem_nil, or_false] at ht
  rcases ht with rfl | rfl | rfl | rfl | rfl <;> exact ⟨by kernel_rfl, of_decide_eq_true (by kernel_rfl)⟩
set_option maxRecDepth 100000 in
theorem lifted (os : Os) (started : os.Started) (H : Type) (enc : TypeId × Value → H) :
    ReturnsInHanded {} Try.checked os 10 .any (Rows.nodesTurnSpec.pre6 enc Try.prog Try.f10 Rows.nodesTurnRow.domain false) (Rows.nodesTurnSpec.post enc Try.prog Try.f10 false true false false) := by
  refine returnsInHanded_of_change_sized (C := Try.checked) own started (by kernel_rfl) Try.func10
    (ChangeSpec.witness6 (enc := enc) (C := Try.checked) false ⟨#[], #[.agg #[.slice none 0 0, .slice none 0 0], .agg #[.slice none 0 0, .slice none 0 0], .agg #[.int .i64 0, .int .i64 0], .agg #[.int .i64 0, .int .i64 0], .int .i64 0], []⟩ 8 (by kernel_rfl) (by kernel_rfl) (by kernel_rfl) (by kernel_rfl)) ?_
  intro W base args ds gs before hval0 hW hcnd hsz _
  have hW' := hW
  obtain ⟨p, q, hA0, hV, rfl, hfz, hnd⟩ := hW
  have hA : DataW.TrodAll enc Try.prog W 0 (fun _ => true) true Try.f10.params.toList args.toList ds p := hA0
  have hlt : ∀ x ∈ p, x.block < W.heap.size := fun x hx => hW'.lt x (List.mem_append.2 (.inl hx))
  rw [Try.params10] at hA hsz
  obtain ⟨v0, vs0, d0, ds0, p0, q0, e0, rfl, rfl, h0, hA⟩ := trodAll_cons hA
  obtain ⟨v1, vs1, d1, ds1, p1, q1, e1, rfl, rfl, h1, hA⟩ := trodAll_cons hA
  obtain ⟨v2, vs2, d2, ds2, p2, q2, e2, rfl, rfl, h2, hA⟩ := trodAll_cons hA
  obtain ⟨v3, vs3, d3, ds3, p3, q3, e3, rfl, rfl, h3, hA⟩ := trodAll_cons hA
  obtain ⟨v4, vs4, d4, ds4, p4, q4, e4, rfl, rfl, h4, hA⟩ := trodAll_cons hA
  obtain ⟨rfl, rfl, rfl⟩ := trodAll_nil hA
  subst e4
  subst e3
  subst e2
  subst e1
  obtain rfl : args = #[v0, v1, v2, v3, v4] := by cases args; simp_all
  obtain ⟨cs0, a0, rfl, k0, z0⟩ := arg_aggZ op79 (by kernel_rfl) (hval0 0 79 v0 rfl rfl) h0 (weight_each hsz 0 rfl rfl)
  obtain ⟨A0_0, c0_0, A0_1, c0_1, k0, hR0_0, hR0_1⟩ := k0
  have k0 : cs0 = [.slice A0_0 a0.Arena.Slots.length c0_0, .slice A0_1 a0.Kids.length c0_1] := k0
  subst k0
  obtain ⟨cs1, a1, rfl, k1, z1⟩ := arg_aggZ op79 (by kernel_rfl) (hval0 1 79 v1 rfl rfl) h1 (weight_each hsz 1 rfl rfl)
  obtain ⟨A1_0, c1_0, A1_1, c1_1, k1, hR1_0, hR1_1⟩ := k1
  have k1 : cs1 = [.slice A1_0 a1.Arena.Slots.length c1_0, .slice A1_1 a1.Kids.length c1_1] := k1
  subst k1
  obtain ⟨cs2, a2, rfl, k2⟩ := arg_agg op81 (by kernel_rfl) (hval0 2 81 v2 rfl rfl) h2
  have k2 : cs2 = [.int .i64 a2.Slot, .int .i64 a2.Gen] := k2
  subst k2
  obtain ⟨cs3, a3, rfl, k3⟩ := arg_agg op81 (by kernel_rfl) (hval0 3 81 v3 rfl rfl) h3
  have k3 : cs3 = [.int .i64 a3.Slot, .int .i64 a3.Gen] := k3
  subst k3
  obtain ⟨a4, rfl, wf4⟩ := arg_int (k := .i64) Try.underlying3 (hval0 4 3 v4 rfl rfl) h4
  obtain ⟨rfl, rfl⟩ := trodVars_none hV
  simp only [List.append_nil] at hW' hlt
  refine (c10 okT 1000 W a0 A0_0 c0_0 A0_1 c0_1 a1 A1_0 c1_0 A1_1 c1_1 a2 a3 a4 hR0_0 hR0_1 hR1_0 hR1_1 true (said a0 a1 a2 a3 a4 z0 z1)).mono fun e W' ⟨he, hg⟩ => ?_
  subst he
  exact ⟨_, rfl, post_below (pv := []) hW' (fun _ _ _ => (trodAll_cons_mk (shut_bool Try.underlying4 _) trodAll_mk0)) (fun sp hsp => trodAll_stays laidOut hg.base readable hA0 (by simpa using hlt) (fun x hx => hsp x (by simpa using hx))) (fun _ _ => rfl) (by simp) hg.base
    (ok_one (by kernel_rfl) rfl (okWide_bool_mk Try.underlying4 _))⟩
theorem over : Rows.nodesTurnRow.holds Try.pinned (OpenSpec.ofChange Rows.nodesTurnSpec) :=
  OpenClaim.holds_of_wide 10 Try.f10 rfl rfl rfl rfl rfl rfl rfl ⟨rfl, rfl, rfl, rfl, rfl⟩ rfl rfl rfl rfl rfl (by kernel_rfl) Try.func10 (by kernel_rfl)
    (of_decide_eq_true (by kernel_rfl)) (by unfold Func.isWrapper; first | (rw [if_pos (by decide +kernel)]; kernel_rfl) | (rw [if_neg (by decide +kernel)]; exact ⟨rfl, rfl⟩))
    (fun os started H enc _ => lifted os started H enc)
end Go.Proofs.Ytobkigllalbkiaa.NodesTurnLaw
namespace Go.Proofs.Ytobkigllalbkiaa
/-- The statement. -/
theorem nodesTurn_proved : Rows.NodesTurnSaid := NodesTurnLaw.over
#print axioms nodesTurn_proved
end Go.Proofs.Ytobkigllalbkiaa
