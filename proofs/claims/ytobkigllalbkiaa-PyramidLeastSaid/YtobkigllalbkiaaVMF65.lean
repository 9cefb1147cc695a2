/- A plain Lean function that answers as the Go function does (none: not told), and the proof that a call answers so. Written by program. -/
import Derived.Test.YtobkigllalbkiaaVMTy
import Derived.Test.YtobkigllalbkiaaVMF66
set_option linter.unusedVariables false
namespace Go.Proofs.YtobkigllalbkiaaV.M
open Go.RowKit Go.Proofs.YtobkigllalbkiaaV
def m65_l1b (K : Nat) (a0 : (List S_Level)) (a1 : (List S_Level)) (rec1 : Int → Option (Bool)) (y17_1 : Int) : Option (Bool) :=
  (bif (decide (y17_1 < (a0.length : Int))) then (idx a0 y17_1 fun el11 => (idx a1 y17_1 fun el31 => ((m66 K el11 el31).bind fun v52 => (bif (!v52) then some false else (ck (y17_1 + 1) fun x54 => (rec1 x54)))))) else some true)
def m65_l1 (K : Nat) (a0 : (List S_Level)) (a1 : (List S_Level)) : Nat → Int → Option (Bool)
  | 0 => fun _ => none
  | k + 1 => m65_l1b K a0 a1 (m65_l1 K a0 a1 k)
/-- slices.EqualFunc(()diorama/api.Level,()diorama/api.Level,diorama/api.Level,diorama/api.Level) -/
def m65 (K : Nat) (a0 : (List S_Level)) (a1 : (List S_Level)) : Option (Bool) :=
  (bif ((a0.length : Int) != (a1.length : Int)) then some false else m65_l1 K a0 a1 K 0)
set_option maxRecDepth 100000 in
set_option maxHeartbeats 4000000 in
theorem c65 (ok : Nat → Prop) (K : Nat) (w : World) (a0 : (List S_Level)) (A1 : Option Addr) (cp2 : Nat) (a1 : (List S_Level)) (A5 : Option Addr) (cp6 : Nat) (hR3 : Rd k_Level w ok A1 cp2 a0) (hR7 : Rd k_Level w ok A5 cp6 a1) (res : Bool) (hm : m65 K a0 a1 = some res) :
    Calls Try.prog 65 #[.slice A1 a0.length cp2, .slice A5 a1.length cp6, .func (.func 66) #[] #[]] w (fun e w' => e = .returned (tup [.bool res]) ∧ Sep ok w w' [] []) := by
  refine calls_W (args := [.slice A1 a0.length cp2, .slice A5 a1.length cp6, .func (.func 66) #[] #[]]) Try.func65 rfl Try.ntmps65 Try.results65 rfl fun r hr => ?_
  obtain ⟨r1, rfl⟩ := regen (r := r) [(0, .slice A1 a0.length cp2), (1, .slice A5 a1.length cp6), (2, .func (.func 66) #[] #[])] ⟨hr 0 _ rfl, hr 1 _ rfl, hr 2 _ rfl, trivial⟩
  have H : Sep ok w w [] [RE.rd k_Level A1 cp2 a0, RE.rd k_Level A5 cp6 a1] := Sep.arg (Sep.arg (Sep.start ok w) (re := RE.rd k_Level A1 cp2 a0) rfl rfl hR3) (re := RE.rd k_Level A5 cp6 a1) rfl rfl hR7
  unfold m65 at hm
  refine W_seq ?_
  refine W_region ?_
  refine RL_pure (by exact wn0 rfl) (by rfl) (by rfl) (x_assign (v := .bool false) (by rfl)) ?_
  refine RL_nil ?_
  refine W_seq ?_
  refine W_seq ?_
  refine W_region ?_
  refine RL_pure (by exact wn0 rfl) (by rfl) (by rfl) (x_move (v := .slice A1 a0.length cp2) (by rfl)) ?_
  refine RL_pure (by exact wn0 rfl) (by rfl) (by rfl) (x_len sl26 (by rfl)) ?_
  refine RL_pure (by exact wn0 rfl) (by rfl) (by rfl) (x_move (v := .slice A5 a1.length cp6) (by rfl)) ?_
  refine RL_pure (by exact wn0 rfl) (by rfl) (by rfl) (x_len sl26 (by rfl)) ?_
  refine RL_pure (by exact wn0 rfl) (by rfl) (by rfl) (x_neq (by rfl) (by rfl)) ?_
  refine RL_nil ?_
  refine W_cond (by rfl) (fun hb => ?_) (fun hb => ?_)
  · have hm := cond_t hb hm
    refine W_seq ?_
    refine W_region ?_
    refine RL_pure (by exact wn0 rfl) (by rfl) (by rfl) (x_assign (v := .bool false) (by rfl)) ?_
    refine RL_nil ?_
    refine W_ret ?_
    obtain rfl := Option.some.inj hm
    exact ⟨[.bool false], (.tmp (by rfl) rfl), rfl, H.none_⟩
  · have hm := cond_f hb hm
    refine W_skip ?_
    refine W_seq ?_
    refine W_seq ?_
    refine W_region ?_
    refine RL_pure (by exact wn0 rfl) (by rfl) (by rfl) (x_move (v := .slice A1 a0.length cp2) (by rfl)) ?_
    refine RL_pure (by exact wn0 rfl) (by rfl) (by rfl) (x_len sl26 (by rfl)) ?_
    refine RL_pure (by exact wn0 rfl) (by rfl) (by rfl) (x_move (v := .int .i64 0) (by rfl)) ?_
    refine RL_nil ?_
    refine W_block ?_
    refine W_loop (fun k1 r' w' => ∃ (y17_1 : Int), m65_l1 K a0 a1 k1 y17_1 = some res ∧ Agr [(1, .slice A5 a1.length cp6), (2, .func (.func 66) #[] #[]), (15, .slice A1 a0.length cp2), (16, .int .i64 (a0.length : Int)), (17, .int .i64 y17_1)] r' ∧ Sep ok w w' [] [RE.rd k_Level A1 cp2 a0, RE.rd k_Level A5 cp6 a1]) K ?_ ?_
    · exact ⟨0, hm, ⟨rfl, rfl, rfl, rfl, rfl, trivial⟩, H⟩
    · rintro k1 r' w' ⟨y17_1, hm, hA, H⟩
      obtain ⟨r9, rfl⟩ := regen _ hA; clear hA
      obtain ⟨w10, rfl⟩ : ∃ W : World, W = w' := ⟨_, rfl⟩
      cases k1 with
      | zero => exact (none_some hm).elim
      | succ k1 =>
        have hm : m65_l1b K a0 a1 (m65_l1 K a0 a1 k1) y17_1 = some res := hm
        unfold m65_l1b at hm
        obtain ⟨rec1, hrec1⟩ : ∃ f, m65_l1 K a0 a1 k1 = f := ⟨_, rfl⟩
        rw [hrec1] at hm
        refine W_seq ?_
        refine W_region ?_
        refine RL_pure (by exact wn0 rfl) (by rfl) (by rfl) (x_lss (by rfl) (by rfl)) ?_
        refine RL_nil ?_
        refine W_seq ?_
        refine W_cond (by rfl) (fun hb => ?_) (fun hb => ?_)
        · have hm := cond_t hb hm
          refine W_skip ?_
          refine W_seq ?_
          refine W_block ?_
          refine W_seq ?_
          refine W_region ?_
          refine RL_pure (by exact wn0 rfl) (by rfl) (by rfl) (x_move (v := .int .i64 y17_1) (by rfl)) ?_
          obtain ⟨el11, h12, h13, he14, hm⟩ := idx_some hm
          obtain ⟨g16, o17, hA15⟩ := (H.rd (i := 0) (by rfl)).addr he14
          obtain ⟨cs18, hk19, hat20, hg_cs18⟩ := (H.rd (i := 0) (by rfl)).openAt hA15 he14
          obtain ⟨A23, cp24, rfl, hR26⟩ := hk19
          have H : Sep ok w w10 [] [RE.rd k_Level A1 cp2 a0, RE.rd k_Level A5 cp6 a1, RE.cells g16 (o17 + (y17_1).toNat * 3) [.int .i64 el11.W, .int .i64 el11.H, .slice A23 el11.Low.length cp24]] := Sep.also H (re := RE.cells g16 (o17 + (y17_1).toNat * 3) [.int .i64 el11.W, .int .i64 el11.H, .slice A23 el11.Low.length cp24]) ⟨hg_cs18.1, hg_cs18.2, hat20⟩
          have H : Sep ok w w10 [] [RE.rd k_Level A1 cp2 a0, RE.rd k_Level A5 cp6 a1, RE.cells g16 (o17 + (y17_1).toNat * 3) [.int .i64 el11.W, .int .i64 el11.H, .slice A23 el11.Low.length cp24], RE.rd kInt A23 cp24 el11.Low] := Sep.also H (re := RE.rd kInt A23 cp24 el11.Low) hR26
          refine RL_pure (by exact wn0 rfl) (by rfl) (by rfl) (x_indexAddr sl26 sz54 (by rfl) (by rfl) hA15 h12 h13) ?_
          refine RL_pure (by exact wn0 rfl) (by rfl) (by rfl) (x_loadA (j := 0) (vs := [.int .i64 el11.W, .int .i64 el11.H, .slice A23 el11.Low.length cp24]) ag54 (by rfl) (H.cellsR (i := 2) (by rfl)) (by rfl) (by rfl)) ?_
          refine RL_cons (O_alloc (by exact wn0 rfl) (by rfl) ze54 (by rfl) H (fun w29 b28 (H : Sep ok w w29 [.blk b28 54 [.int .i64 0, .int .i64 0, .slice none 0 0]] [RE.rd k_Level A1 cp2 a0, RE.rd k_Level A5 cp6 a1, RE.cells g16 (o17 + (y17_1).toNat * 3) [.int .i64 el11.W, .int .i64 el11.H, .slice A23 el11.Low.length cp24], RE.rd kInt A23 cp24 el11.Low]) => ?_))
          refine RL_pure (by exact wn0 rfl) (by rfl) (by rfl) (x_assign (v := .int .i64 y17_1) (by rfl)) ?_
          refine RL_cons (O_store (i := 0) (off := 0) (by exact wn0 rfl) (by rfl) (by rfl) H (by rfl) (vs := [.int .i64 el11.W, .int .i64 el11.H, .slice A23 el11.Low.length cp24]) (by rfl) sz54 (by rfl) (by rfl) (by rfl) (fun w30 (H : Sep ok w w30 [.blk b28 54 [.int .i64 el11.W, .int .i64 el11.H, .slice A23 el11.Low.length cp24]] [RE.rd k_Level A1 cp2 a0, RE.rd k_Level A5 cp6 a1, RE.cells g16 (o17 + (y17_1).toNat * 3) [.int .i64 el11.W, .int .i64 el11.H, .slice A23 el11.Low.length cp24], RE.rd kInt A23 cp24 el11.Low]) => ?_))
          refine RL_nil ?_
          refine W_seq ?_
          refine W_region ?_
          refine RL_pure (by exact wn0 rfl) (by rfl) (by rfl) (x_move (v := .slice A5 a1.length cp6) (by rfl)) ?_
          refine RL_pure (by exact wn0 rfl) (by rfl) (by rfl) (x_move (v := .int .i64 y17_1) (by rfl)) ?_
          obtain ⟨el31, h32, h33, he34, hm⟩ := idx_some hm
          obtain ⟨g36, o37, hA35⟩ := (H.rd (i := 1) (by rfl)).addr he34
          obtain ⟨cs38, hk39, hat40, hg_cs38⟩ := (H.rd (i := 1) (by rfl)).openAt hA35 he34
          obtain ⟨A43, cp44, rfl, hR46⟩ := hk39
          have H : Sep ok w w30 [.blk b28 54 [.int .i64 el11.W, .int .i64 el11.H, .slice A23 el11.Low.length cp24]] [RE.rd k_Level A1 cp2 a0, RE.rd k_Level A5 cp6 a1, RE.cells g16 (o17 + (y17_1).toNat * 3) [.int .i64 el11.W, .int .i64 el11.H, .slice A23 el11.Low.length cp24], RE.rd kInt A23 cp24 el11.Low, RE.cells g36 (o37 + (y17_1).toNat * 3) [.int .i64 el31.W, .int .i64 el31.H, .slice A43 el31.Low.length cp44]] := Sep.also H (re := RE.cells g36 (o37 + (y17_1).toNat * 3) [.int .i64 el31.W, .int .i64 el31.H, .slice A43 el31.Low.length cp44]) ⟨hg_cs38.1, hg_cs38.2, hat40⟩
          have H : Sep ok w w30 [.blk b28 54 [.int .i64 el11.W, .int .i64 el11.H, .slice A23 el11.Low.length cp24]] [RE.rd k_Level A1 cp2 a0, RE.rd k_Level A5 cp6 a1, RE.cells g16 (o17 + (y17_1).toNat * 3) [.int .i64 el11.W, .int .i64 el11.H, .slice A23 el11.Low.length cp24], RE.rd kInt A23 cp24 el11.Low, RE.cells g36 (o37 + (y17_1).toNat * 3) [.int .i64 el31.W, .int .i64 el31.H, .slice A43 el31.Low.length cp44], RE.rd kInt A43 cp44 el31.Low] := Sep.also H (re := RE.rd kInt A43 cp44 el31.Low) hR46
          refine RL_pure (by exact wn0 rfl) (by rfl) (by rfl) (x_indexAddr sl26 sz54 (by rfl) (by rfl) hA35 h32 h33) ?_
          refine RL_pure (by exact wn0 rfl) (by rfl) (by rfl) (x_loadA (j := 0) (vs := [.int .i64 el31.W, .int .i64 el31.H, .slice A43 el31.Low.length cp44]) ag54 (by rfl) (H.cellsR (i := 4) (by rfl)) (by rfl) (by rfl)) ?_
          refine RL_cons (O_alloc (by exact wn0 rfl) (by rfl) ze54 (by rfl) H (fun w49 b48 (H : Sep ok w w49 [.blk b28 54 [.int .i64 el11.W, .int .i64 el11.H, .slice A23 el11.Low.length cp24], .blk b48 54 [.int .i64 0, .int .i64 0, .slice none 0 0]] [RE.rd k_Level A1 cp2 a0, RE.rd k_Level A5 cp6 a1, RE.cells g16 (o17 + (y17_1).toNat * 3) [.int .i64 el11.W, .int .i64 el11.H, .slice A23 el11.Low.length cp24], RE.rd kInt A23 cp24 el11.Low, RE.cells g36 (o37 + (y17_1).toNat * 3) [.int .i64 el31.W, .int .i64 el31.H, .slice A43 el31.Low.length cp44], RE.rd kInt A43 cp44 el31.Low]) => ?_))
          refine RL_cons (O_store (i := 1) (off := 0) (by exact wn0 rfl) (by rfl) (by rfl) H (by rfl) (vs := [.int .i64 el31.W, .int .i64 el31.H, .slice A43 el31.Low.length cp44]) (by rfl) sz54 (by rfl) (by rfl) (by rfl) (fun w50 (H : Sep ok w w50 [.blk b28 54 [.int .i64 el11.W, .int .i64 el11.H, .slice A23 el11.Low.length cp24], .blk b48 54 [.int .i64 el31.W, .int .i64 el31.H, .slice A43 el31.Low.length cp44]] [RE.rd k_Level A1 cp2 a0, RE.rd k_Level A5 cp6 a1, RE.cells g16 (o17 + (y17_1).toNat * 3) [.int .i64 el11.W, .int .i64 el11.H, .slice A23 el11.Low.length cp24], RE.rd kInt A23 cp24 el11.Low, RE.cells g36 (o37 + (y17_1).toNat * 3) [.int .i64 el31.W, .int .i64 el31.H, .slice A43 el31.Low.length cp44], RE.rd kInt A43 cp44 el31.Low]) => ?_))
          refine RL_nil ?_
          refine W_seq ?_
          refine W_region ?_
          refine RL_pure (by exact wn0 rfl) (by rfl) (by rfl) (x_move (v := .func (.func 66) #[] #[]) (by rfl)) ?_
          refine RL_pure (by exact wn0 rfl) (by rfl) (by rfl) (x_loadA (j := 0) (vs := [.int .i64 el11.W, .int .i64 el11.H, .slice A23 el11.Low.length cp24]) ag54 (by rfl) (H.cells (i := 0) (by rfl)) (by rfl) (by rfl)) ?_
          refine RL_pure (by exact wn0 rfl) (by rfl) (by rfl) (x_loadA (j := 0) (vs := [.int .i64 el31.W, .int .i64 el31.H, .slice A43 el31.Low.length cp44]) ag54 (by rfl) (H.cells (i := 1) (by rfl)) (by rfl) (by rfl)) ?_
          obtain ⟨v52, hv51, hm⟩ := bind_some hm
          refine RL_cons (O_call (by exact wn0 rfl) (by rfl) (by rfl) (x_callL (by rfl) (args := [.agg #[.int .i64 el11.W, .int .i64 el11.H, .slice A23 el11.Low.length cp24], .agg #[.int .i64 el31.W, .int .i64 el31.H, .slice A43 el31.Low.length cp44]]) (by rfl) (cf66 _ _)) (c66 (fun _ => True) K w50 el11 A23 cp24 el31 A43 cp44 (H.rd (i := 3) (by rfl)).any (H.rd (i := 5) (by rfl)).any v52 hv51) ?_)
          rintro e w53 ⟨rfl, H2⟩
          have H : Sep ok w w53 [.blk b28 54 [.int .i64 el11.W, .int .i64 el11.H, .slice A23 el11.Low.length cp24], .blk b48 54 [.int .i64 el31.W, .int .i64 el31.H, .slice A43 el31.Low.length cp44]] [RE.rd k_Level A1 cp2 a0, RE.rd k_Level A5 cp6 a1, RE.cells g16 (o17 + (y17_1).toNat * 3) [.int .i64 el11.W, .int .i64 el11.H, .slice A23 el11.Low.length cp24], RE.rd kInt A23 cp24 el11.Low, RE.cells g36 (o37 + (y17_1).toNat * 3) [.int .i64 el31.W, .int .i64 el31.H, .slice A43 el31.Low.length cp44], RE.rd kInt A43 cp44 el31.Low] := H.below H2.base
          clear H2
          refine ⟨_, rfl, ?_⟩
          show RL _ _ _ _ _ _ _
          refine RL_pure (by exact wn0 rfl) (by rfl) (by rfl) (x_not (by rfl)) ?_
          refine RL_nil ?_
          refine W_cond (by rfl) (fun hb => ?_) (fun hb => ?_)
          · have hm := cond_t hb hm
            refine W_seq ?_
            refine W_region ?_
            refine RL_pure (by exact wn0 rfl) (by rfl) (by rfl) (x_assign (v := .bool false) (by rfl)) ?_
            refine RL_nil ?_
            refine W_ret ?_
            obtain rfl := Option.some.inj hm
            exact ⟨[.bool false], (.tmp (by rfl) rfl), rfl, H.none_⟩
          · have hm := cond_f hb hm
            refine W_skip ?_
            refine W_region ?_
            obtain ⟨x54, ex54, qx54, ux54, hm⟩ := ck_some hm
            refine RL_pure (by exact wn0 rfl) (by rfl) (by rfl) (x_add (by rfl) (by rfl) ux54) ?_
            refine RL_pure (by exact wn0 rfl) (by rfl) (by rfl) (x_move (v := .int .i64 x54) (by rfl)) ?_
            refine RL_nil ?_
            subst hrec1
            exact ⟨k1, Nat.lt_succ_self k1, x54, hm, ⟨rfl, rfl, rfl, rfl, rfl, trivial⟩, ((H).takeL 0).pick [0, 1]⟩
        · have hm := cond_f hb hm
          refine W_exit ?_
          refine W_seq ?_
          refine W_region ?_
          refine RL_pure (by exact wn0 rfl) (by rfl) (by rfl) (x_assign (v := .bool true) (by rfl)) ?_
          refine RL_nil ?_
          refine W_ret ?_
          obtain rfl := Option.some.inj hm
          exact ⟨[.bool true], (.tmp (by rfl) rfl), rfl, H.none_⟩
end Go.Proofs.YtobkigllalbkiaaV.M
