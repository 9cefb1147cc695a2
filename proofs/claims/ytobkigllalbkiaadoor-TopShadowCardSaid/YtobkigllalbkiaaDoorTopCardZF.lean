/- Part 6 of the texts that the proof of TopCard stands on. -/
import Derived.Test.YtobkigllalbkiaaDoorTopCardZE
/- A plain Lean function that answers as the Go function does (none: not told), and the proof that a call answers so. Written by program. -/
set_option linter.unusedVariables false
set_option maxRecDepth 100000
set_option maxHeartbeats 4000000
namespace Go.Proofs.YtobkigllalbkiaaV.D
open Go.RowKit Go.Proofs.YtobkigllalbkiaaV
abbrev L5_0 (q0 : Option Addr) (q1 : S_Show) (q2 : Nat) (q3 : Option Addr) (q4 : Nat) : List Value := [.slice q0 q1.Items.length q2, .slice q3 q1.Textures.length q4]
abbrev L5_1 (q0 : Option Addr) (q1 : S_Item) (q2 : Nat) (q3 : Option Addr) (q4 : Nat) (q5 : Option Addr) (q6 : Nat) : List Value := [.slice q0 q1.Verts.length q2, .slice q3 q1.UV.length q4, .slice q5 q1.Tris.length q6, .int .u8 q1.Look.Color.a0, .int .u8 q1.Look.Color.a1, .int .u8 q1.Look.Color.a2, .int .u8 q1.Look.Color.a3, ii q1.Look.Texture, .int .u8 q1.Look.Cull, ii q1.Look.Bias, .bool q1.Look.Blend, ii q1.Look.Bin, ii q1.Box.Low.X, ii q1.Box.Low.Y, ii q1.Box.Low.Z, ii q1.Box.High.X, ii q1.Box.High.Y, ii q1.Box.High.Z]
abbrev L5_2 (q0 : S_Texture) (q1 : Option Addr) (q2 : Nat) : List Value := [ii q0.W, ii q0.H, .slice q1 q0.Texels.length q2]
def m5_l2b (K : Nat) (a0 : S_Show) (rec2 : Int → Int → Option (Bool)) (y3_2 : Int) (y5_2 : Int) : Option (Bool) :=
 ((bif (decide (y5_2 < (a0.Textures.length : Int))) then some (decide (y5_2 < 100)) else some false).bind fun b99 => (bif b99 then (idx a0.Textures y5_2 fun el102 => (ck (Int.tdiv (mn (el102.Texels.length : Int) 10000) 20) fun x119 => (ck (y3_2 + x119) fun x120 => (ck (y5_2 + 1) fun x121 => (rec2 x120 x121))))) else ((bif (decide (100 < (a0.Items.length : Int))) then some true else some (decide (600 < y3_2))).bind fun b122 => ((bif b122 then some true else some (decide (40 < (a0.Textures.length : Int)))).bind fun b125 => some b125))))
def m5_l2 (K : Nat) (a0 : S_Show) : Nat → Int → Int → Option (Bool)
 | 0 => fun _ _ => none
 | k + 1 => m5_l2b K a0 (m5_l2 K a0 k)
def m5_l1b (K : Nat) (a0 : S_Show) (rec1 : Int → Int → Option (Bool)) (y3_1 : Int) (y4_1 : Int) : Option (Bool) :=
 ((bif (decide (y4_1 < (a0.Items.length : Int))) then some (decide (y4_1 < 300)) else some false).bind fun b13 => (bif b13 then (idx a0.Items y4_1 fun el16 => (idx a0.Items y4_1 fun el41 => (ck ((mn (el16.Verts.length : Int) 10000) + (mn (el41.UV.length : Int) 10000)) fun x66 => (idx a0.Items y4_1 fun el67 => (ck (2 * (mn (el67.Tris.length : Int) 10000)) fun x92 => (ck (x66 + x92) fun x93 => (ck (y3_1 + x93) fun x94 => (ck (y4_1 + 1) fun x96 => (rec1 x94 x96))))))))) else m5_l2 K a0 K y3_1 0))
def m5_l1 (K : Nat) (a0 : S_Show) : Nat → Int → Int → Option (Bool)
 | 0 => fun _ _ => none
 | k + 1 => m5_l1b K a0 (m5_l1 K a0 k)
def m5 (K : Nat) (a0 : S_Show) : Option (Bool) :=
 m5_l1 K a0 K 0 0
abbrev S5_0 (q0 : Okp) (q1 q2 : World) (q3 : Nat) (q4 : Option Addr) (q5 : S_Show) (q6 : Nat) (q7 : Option Addr) (q8 : Nat) : Prop := Sep q0 q1 q2 [.blk q3 25 (L5_0 q4 q5 q6 q7 q8)] [RE.rd k_Item q4 q6 q5.Items, RE.rd k_Texture q7 q8 q5.Textures]
abbrev S5_1 (q0 : Okp) (q1 q2 : World) (q3 : Nat) (q4 : Option Addr) (q5 : S_Show) (q6 : Nat) (q7 : Option Addr) (q8 q9 q10 : Nat) (q11 : Int) (q12 : Option Addr) (q13 : S_Item) (q14 : Nat) (q15 : Option Addr) (q16 : Nat) (q17 : Option Addr) (q18 q19 q20 : Nat) (q21 : Option Addr) (q22 : S_Item) (q23 : Nat) (q24 : Option Addr) (q25 : Nat) (q26 : Option Addr) (q27 q28 q29 : Nat) (q30 : Option Addr) (q31 : S_Item) (q32 : Nat) (q33 : Option Addr) (q34 : Nat) (q35 : Option Addr) (q36 : Nat) : Prop := Sep q0 q1 q2 [.blk q3 25 (L5_0 q4 q5 q6 q7 q8)] [RE.rd k_Item q4 q6 q5.Items, RE.rd k_Texture q7 q8 q5.Textures, RE.cells q9 (q10 + (q11).toNat * 18) (L5_1 q12 q13 q14 q15 q16 q17 q18), RE.rd k_Vec q12 q14 q13.Verts, RE.rd k_Ar2_Int q15 q16 q13.UV, RE.rd k_Ar3_Int q17 q18 q13.Tris, RE.cells q19 (q20 + (q11).toNat * 18) (L5_1 q21 q22 q23 q24 q25 q26 q27), RE.rd k_Vec q21 q23 q22.Verts, RE.rd k_Ar2_Int q24 q25 q22.UV, RE.rd k_Ar3_Int q26 q27 q22.Tris, RE.cells q28 (q29 + (q11).toNat * 18) (L5_1 q30 q31 q32 q33 q34 q35 q36), RE.rd k_Vec q30 q32 q31.Verts, RE.rd k_Ar2_Int q33 q34 q31.UV, RE.rd k_Ar3_Int q35 q36 q31.Tris]
theorem c5 (ok : Okp) (K : Nat) (w : World) (a0 : S_Show) (A1 : Option Addr) (cp2 : Nat) (A5 : Option Addr) (cp6 : Nat) (hR3 : Rd k_Item w ok A1 cp2 a0.Items) (hR7 : Rd k_Texture w ok A5 cp6 a0.Textures) (res : Bool) (hm : m5 K a0 = some res) :
  Calls Tryd.prog 5 #[.agg (L5_0 A1 a0 cp2 A5 cp6).toArray] w (fun e w' => e = .returned (tup [.bool res]) ∧ Sep ok w w' [] []) := by
 refine calls_W (args := [.agg (L5_0 A1 a0 cp2 A5 cp6).toArray]) Tryd.func5 rfl Tryd.ntmps5 Tryd.results5 rfl fun r hr => ?_
 obtain ⟨r1, rfl⟩ := regen (r := r) [(0, .agg (L5_0 A1 a0 cp2 A5 cp6).toArray)] ⟨hr 0 _ rfl, trivial⟩
 have H : Sep ok w w [] [RE.rd k_Item A1 cp2 a0.Items, RE.rd k_Texture A5 cp6 a0.Textures] := Sep.arg (Sep.arg (Sep.start ok w) (re := RE.rd k_Item A1 cp2 a0.Items) rfl rfl hR3) (re := RE.rd k_Texture A5 cp6 a0.Textures) rfl rfl hR7
 unfold m5 at hm
 refine Wr ?_
 refine RL_cons (OB H (fun w10 b9 (H : S5_0 ok w w10 b9 A1 a0 cp2 A5 cp6) => ?_))
 refine RL_p (xa (.bool false)) ?_
 refine Wr ?_
 refine RL_p (xa (ii 0)) ?_
 refine W_seq ?_
 refine Wr ?_
 refine RL_p (xa (ii 0)) ?_
 refine W_block ?_
 refine W_loop (fun k1 r' w' => ∃ (y3_1 : Int), ∃ (y4_1 : Int), m5_l1 K a0 k1 y3_1 y4_1 = some res ∧ Agr [(1, pp b9), (3, ii y3_1), (4, ii y4_1)] r' ∧ S5_0 ok w w' b9 A1 a0 cp2 A5 cp6) K ?_ ?_
 ·exact ⟨0, 0, hm, ⟨rfl, rfl, rfl, trivial⟩, H⟩
 rintro k1 r' w' ⟨y3_1, y4_1, hm, hA, H⟩
 obtain ⟨r11, rfl⟩ := regen _ hA; clear hA
 obtain ⟨w12, rfl⟩ := wld w'
 cases k1 with
 | zero => exact (none_some hm).elim
 | succ k1 =>
  have hm : m5_l1b K a0 (m5_l1 K a0 k1) y3_1 y4_1 = some res := hm
  unfold m5_l1b at hm
  obtain ⟨rec1, hrec1⟩ : ∃ f, m5_l1 K a0 k1 = f := ⟨_, rfl⟩
  rw [hrec1] at hm
  refine W_seq ?_
  refine Wr ?_
  refine RL_p (xm (ii y4_1)) ?_
  refine RL_p (xf fo25_0) ?_
  refine RL_p (xl 0 (.slice A1 a0.Items.length cp2) sc22 (H.c 0)) ?_
  refine RL_p (x_len sl22 (by rfl)) ?_
  refine RL_p (xL) ?_
  refine RL_p (xm (.bool (decide (y4_1 < (a0.Items.length : Int))))) ?_
  obtain ⟨b13, hmS, hm⟩ := bind_some hm
  refine RL_cut 3 (fun r' w' => Agr [(14, .bool b13), (1, pp b9), (3, ii y3_1), (4, ii y4_1)] r' ∧ S5_0 ok w w' b9 A1 a0 cp2 A5 cp6) ?_ ?_
  ·cases hbS : (decide (y4_1 < (a0.Items.length : Int)))
   ·have hm := cond_f hbS hmS
    refine RO ?_
    refine RO ?_
    refine RL_p (xF (.bool false)) ?_
    refine RL_nil ?_
    exact ⟨⟨congrArg Value.bool (Option.some.inj hm), rfl, rfl, rfl, trivial⟩, H⟩
   have hm := cond_t hbS hmS
   refine RQ (xm (ii y4_1)) ?_
   refine RQ (xL) ?_
   refine RL_p (xT (.bool (decide (y4_1 < 300)))) ?_
   refine RL_nil ?_
   exact ⟨⟨congrArg Value.bool (Option.some.inj hm), rfl, rfl, rfl, trivial⟩, H⟩
  rintro r' w' ⟨hA, H⟩
  obtain ⟨r14, rfl⟩ := regen _ hA; clear hA
  obtain ⟨w15, rfl⟩ := wld w'
  show RL _ _ _ _ _ _ _
  refine Wc (fun hb => ?_) (fun hb => ?_)
  ·have hm := cond_t hb hm
   refine W_skip ?_
   refine W_seq ?_
   refine W_block ?_
   obtain ⟨el16, h17, h18, he19, hm⟩ := idx_some hm
   obtain ⟨g21, o22, hA20⟩ := (H.rd (i := 0) (by rfl)).addr he19
   obtain ⟨cs23, hk24, hat25, hg_cs23⟩ := (H.rd (i := 0) (by rfl)).openAt hA20 he19
   obtain ⟨A28, cp29, A31, cp32, A34, cp35, rfl, hR37, hR38, hR39⟩ := hk24
   have H : Sep ok w w15 [.blk b9 25 (L5_0 A1 a0 cp2 A5 cp6)] [RE.rd k_Item A1 cp2 a0.Items, RE.rd k_Texture A5 cp6 a0.Textures, RE.cells g21 (o22 + (y4_1).toNat * 18) (L5_1 A28 el16 cp29 A31 cp32 A34 cp35)] := Sep.also H (re := RE.cells g21 (o22 + (y4_1).toNat * 18) (L5_1 A28 el16 cp29 A31 cp32 A34 cp35)) ⟨hg_cs23, hat25⟩
   have H : Sep ok w w15 [.blk b9 25 (L5_0 A1 a0 cp2 A5 cp6)] [RE.rd k_Item A1 cp2 a0.Items, RE.rd k_Texture A5 cp6 a0.Textures, RE.cells g21 (o22 + (y4_1).toNat * 18) (L5_1 A28 el16 cp29 A31 cp32 A34 cp35), RE.rd k_Vec A28 cp29 el16.Verts] := Sep.also H (re := RE.rd k_Vec A28 cp29 el16.Verts) hR37
   have H : Sep ok w w15 [.blk b9 25 (L5_0 A1 a0 cp2 A5 cp6)] [RE.rd k_Item A1 cp2 a0.Items, RE.rd k_Texture A5 cp6 a0.Textures, RE.cells g21 (o22 + (y4_1).toNat * 18) (L5_1 A28 el16 cp29 A31 cp32 A34 cp35), RE.rd k_Vec A28 cp29 el16.Verts, RE.rd k_Ar2_Int A31 cp32 el16.UV] := Sep.also H (re := RE.rd k_Ar2_Int A31 cp32 el16.UV) hR38
   have H : Sep ok w w15 [.blk b9 25 (L5_0 A1 a0 cp2 A5 cp6)] [RE.rd k_Item A1 cp2 a0.Items, RE.rd k_Texture A5 cp6 a0.Textures, RE.cells g21 (o22 + (y4_1).toNat * 18) (L5_1 A28 el16 cp29 A31 cp32 A34 cp35), RE.rd k_Vec A28 cp29 el16.Verts, RE.rd k_Ar2_Int A31 cp32 el16.UV, RE.rd k_Ar3_Int A34 cp35 el16.Tris] := Sep.also H (re := RE.rd k_Ar3_Int A34 cp35 el16.Tris) hR39
   obtain ⟨el41, h42, h43, he44, hm⟩ := idx_some hm
   obtain ⟨g46, o47, hA45⟩ := (H.rd (i := 0) (by rfl)).addr he44
   obtain ⟨cs48, hk49, hat50, hg_cs48⟩ := (H.rd (i := 0) (by rfl)).openAt hA45 he44
   obtain ⟨A53, cp54, A56, cp57, A59, cp60, rfl, hR62, hR63, hR64⟩ := hk49
   have H : Sep ok w w15 [.blk b9 25 (L5_0 A1 a0 cp2 A5 cp6)] [RE.rd k_Item A1 cp2 a0.Items, RE.rd k_Texture A5 cp6 a0.Textures, RE.cells g21 (o22 + (y4_1).toNat * 18) (L5_1 A28 el16 cp29 A31 cp32 A34 cp35), RE.rd k_Vec A28 cp29 el16.Verts, RE.rd k_Ar2_Int A31 cp32 el16.UV, RE.rd k_Ar3_Int A34 cp35 el16.Tris, RE.cells g46 (o47 + (y4_1).toNat * 18) (L5_1 A53 el41 cp54 A56 cp57 A59 cp60)] := Sep.also H (re := RE.cells g46 (o47 + (y4_1).toNat * 18) (L5_1 A53 el41 cp54 A56 cp57 A59 cp60)) ⟨hg_cs48, hat50⟩
   have H : Sep ok w w15 [.blk b9 25 (L5_0 A1 a0 cp2 A5 cp6)] [RE.rd k_Item A1 cp2 a0.Items, RE.rd k_Texture A5 cp6 a0.Textures, RE.cells g21 (o22 + (y4_1).toNat * 18) (L5_1 A28 el16 cp29 A31 cp32 A34 cp35), RE.rd k_Vec A28 cp29 el16.Verts, RE.rd k_Ar2_Int A31 cp32 el16.UV, RE.rd k_Ar3_Int A34 cp35 el16.Tris, RE.cells g46 (o47 + (y4_1).toNat * 18) (L5_1 A53 el41 cp54 A56 cp57 A59 cp60), RE.rd k_Vec A53 cp54 el41.Verts] := Sep.also H (re := RE.rd k_Vec A53 cp54 el41.Verts) hR62
   have H : Sep ok w w15 [.blk b9 25 (L5_0 A1 a0 cp2 A5 cp6)] [RE.rd k_Item A1 cp2 a0.Items, RE.rd k_Texture A5 cp6 a0.Textures, RE.cells g21 (o22 + (y4_1).toNat * 18) (L5_1 A28 el16 cp29 A31 cp32 A34 cp35), RE.rd k_Vec A28 cp29 el16.Verts, RE.rd k_Ar2_Int A31 cp32 el16.UV, RE.rd k_Ar3_Int A34 cp35 el16.Tris, RE.cells g46 (o47 + (y4_1).toNat * 18) (L5_1 A53 el41 cp54 A56 cp57 A59 cp60), RE.rd k_Vec A53 cp54 el41.Verts, RE.rd k_Ar2_Int A56 cp57 el41.UV] := Sep.also H (re := RE.rd k_Ar2_Int A56 cp57 el41.UV) hR63
   have H : Sep ok w w15 [.blk b9 25 (L5_0 A1 a0 cp2 A5 cp6)] [RE.rd k_Item A1 cp2 a0.Items, RE.rd k_Texture A5 cp6 a0.Textures, RE.cells g21 (o22 + (y4_1).toNat * 18) (L5_1 A28 el16 cp29 A31 cp32 A34 cp35), RE.rd k_Vec A28 cp29 el16.Verts, RE.rd k_Ar2_Int A31 cp32 el16.UV, RE.rd k_Ar3_Int A34 cp35 el16.Tris, RE.cells g46 (o47 + (y4_1).toNat * 18) (L5_1 A53 el41 cp54 A56 cp57 A59 cp60), RE.rd k_Vec A53 cp54 el41.Verts, RE.rd k_Ar2_Int A56 cp57 el41.UV, RE.rd k_Ar3_Int A59 cp60 el41.Tris] := Sep.also H (re := RE.rd k_Ar3_Int A59 cp60 el41.Tris) hR64
   obtain ⟨x66, ex66, qx66, ux66, hm⟩ := ck_some hm
   obtain ⟨el67, h68, h69, he70, hm⟩ := idx_some hm
   obtain ⟨g72, o73, hA71⟩ := (H.rd (i := 0) (by rfl)).addr he70
   obtain ⟨cs74, hk75, hat76, hg_cs74⟩ := (H.rd (i := 0) (by rfl)).openAt hA71 he70
   obtain ⟨A79, cp80, A82, cp83, A85, cp86, rfl, hR88, hR89, hR90⟩ := hk75
   have H : Sep ok w w15 [.blk b9 25 (L5_0 A1 a0 cp2 A5 cp6)] [RE.rd k_Item A1 cp2 a0.Items, RE.rd k_Texture A5 cp6 a0.Textures, RE.cells g21 (o22 + (y4_1).toNat * 18) (L5_1 A28 el16 cp29 A31 cp32 A34 cp35), RE.rd k_Vec A28 cp29 el16.Verts, RE.rd k_Ar2_Int A31 cp32 el16.UV, RE.rd k_Ar3_Int A34 cp35 el16.Tris, RE.cells g46 (o47 + (y4_1).toNat * 18) (L5_1 A53 el41 cp54 A56 cp57 A59 cp60), RE.rd k_Vec A53 cp54 el41.Verts, RE.rd k_Ar2_Int A56 cp57 el41.UV, RE.rd k_Ar3_Int A59 cp60 el41.Tris, RE.cells g72 (o73 + (y4_1).toNat * 18) (L5_1 A79 el67 cp80 A82 cp83 A85 cp86)] := Sep.also H (re := RE.cells g72 (o73 + (y4_1).toNat * 18) (L5_1 A79 el67 cp80 A82 cp83 A85 cp86)) ⟨hg_cs74, hat76⟩
   have H : Sep ok w w15 [.blk b9 25 (L5_0 A1 a0 cp2 A5 cp6)] [RE.rd k_Item A1 cp2 a0.Items, RE.rd k_Texture A5 cp6 a0.Textures, RE.cells g21 (o22 + (y4_1).toNat * 18) (L5_1 A28 el16 cp29 A31 cp32 A34 cp35), RE.rd k_Vec A28 cp29 el16.Verts, RE.rd k_Ar2_Int A31 cp32 el16.UV, RE.rd k_Ar3_Int A34 cp35 el16.Tris, RE.cells g46 (o47 + (y4_1).toNat * 18) (L5_1 A53 el41 cp54 A56 cp57 A59 cp60), RE.rd k_Vec A53 cp54 el41.Verts, RE.rd k_Ar2_Int A56 cp57 el41.UV, RE.rd k_Ar3_Int A59 cp60 el41.Tris, RE.cells g72 (o73 + (y4_1).toNat * 18) (L5_1 A79 el67 cp80 A82 cp83 A85 cp86), RE.rd k_Vec A79 cp80 el67.Verts] := Sep.also H (re := RE.rd k_Vec A79 cp80 el67.Verts) hR88
   have H : Sep ok w w15 [.blk b9 25 (L5_0 A1 a0 cp2 A5 cp6)] [RE.rd k_Item A1 cp2 a0.Items, RE.rd k_Texture A5 cp6 a0.Textures, RE.cells g21 (o22 + (y4_1).toNat * 18) (L5_1 A28 el16 cp29 A31 cp32 A34 cp35), RE.rd k_Vec A28 cp29 el16.Verts, RE.rd k_Ar2_Int A31 cp32 el16.UV, RE.rd k_Ar3_Int A34 cp35 el16.Tris, RE.cells g46 (o47 + (y4_1).toNat * 18) (L5_1 A53 el41 cp54 A56 cp57 A59 cp60), RE.rd k_Vec A53 cp54 el41.Verts, RE.rd k_Ar2_Int A56 cp57 el41.UV, RE.rd k_Ar3_Int A59 cp60 el41.Tris, RE.cells g72 (o73 + (y4_1).toNat * 18) (L5_1 A79 el67 cp80 A82 cp83 A85 cp86), RE.rd k_Vec A79 cp80 el67.Verts, RE.rd k_Ar2_Int A82 cp83 el67.UV] := Sep.also H (re := RE.rd k_Ar2_Int A82 cp83 el67.UV) hR89
   have H : S5_1 ok w w15 b9 A1 a0 cp2 A5 cp6 g21 o22 y4_1 A28 el16 cp29 A31 cp32 A34 cp35 g46 o47 A53 el41 cp54 A56 cp57 A59 cp60 g72 o73 A79 el67 cp80 A82 cp83 A85 cp86 := Sep.also H (re := RE.rd k_Ar3_Int A85 cp86 el67.Tris) hR90
   obtain ⟨x92, ex92, qx92, ux92, hm⟩ := ck_some hm
   obtain ⟨x93, ex93, qx93, ux93, hm⟩ := ck_some hm
   obtain ⟨x94, ex94, qx94, ux94, hm⟩ := ck_some hm
   refine W_draw [.free 0, .free 1, .take 2, .free 3, .free 4, .free 5, .take 6, .free 7, .free 8, .free 9, .take 10, .free 11, .free 12, .free 13, .take 14, .free 15, .free 16, .free 17, .free 18, .take 19, .free 20, .free 21, .free 22, .take 23, .free 24, .free 25, .free 26, .free 27, .free 28, .free 29] (fun wS => S5_1 ok w wS b9 A1 a0 cp2 A5 cp6 g21 o22 y4_1 A28 el16 cp29 A31 cp32 A34 cp35 g46 o47 A53 el41 cp54 A56 cp57 A59 cp60 g72 o73 A79 el67 cp80 A82 cp83 A85 cp86) [] [0, 1, 3, 4, 5, 7, 8, 9, 11, 12, 13, 15, 16, 17, 18, 20, 21, 22, 24, 25, 26, 27, 28, 29] mixed0 (by kernel_rfl) (by kernel_rfl) (by kernel_rfl) (by rfl) (by exact H.drew) ?_
   obtain ⟨w95, hW⟩ : ∃ W : World, W = { w15 with drawn := w15.drawn + 1 } := ⟨_, rfl⟩
   rw [← hW]
   have H : S5_1 ok w w95 b9 A1 a0 cp2 A5 cp6 g21 o22 y4_1 A28 el16 cp29 A31 cp32 A34 cp35 g46 o47 A53 el41 cp54 A56 cp57 A59 cp60 g72 o73 A79 el67 cp80 A82 cp83 A85 cp86 := by rw [hW]; exact H.drew
   clear hW
   refine PF (a := xm (ii y3_1)) (b := ?_)
   refine PF (a := xf fo25_0) (b := ?_)
   refine PT' (a := fun H => xl 0 (.slice A1 a0.Items.length cp2) sc22 (H.c 0)) (b := ?_)
   refine PF (a := xm (ii y4_1)) (b := ?_)
   refine PF (a := x_indexAddr sl22 sz52 (by rfl) (by rfl) hA20 h17 h18) (b := ?_)
   refine PF (a := xf fo52_0) (b := ?_)
   refine PT' (a := fun H => xl 0 (.slice A28 el16.Verts.length cp29) sc42 (H.cellsR (i := 2) (by rfl))) (b := ?_)
   refine PF (a := x_len sl42 (by rfl)) (b := ?_)
   refine PF (a := x_min2 (by rfl) (by rfl)) (b := ?_)
   refine PF (a := xf fo25_0) (b := ?_)
   refine PT' (a := fun H => xl 0 (.slice A1 a0.Items.length cp2) sc22 (H.c 0)) (b := ?_)
   refine PF (a := xm (ii y4_1)) (b := ?_)
   refine PF (a := x_indexAddr sl22 sz52 (by rfl) (by rfl) hA45 h42 h43) (b := ?_)
   refine PF (a := xf fo52_1) (b := ?_)
   refine PT' (a := fun H => xl 1 (.slice A56 el41.UV.length cp57) sc43 (H.cellsR (i := 6) (by rfl))) (b := ?_)
   refine PF (a := x_len sl43 (by rfl)) (b := ?_)
   refine PF (a := x_min2 (by rfl) (by rfl)) (b := ?_)
   refine PF (a := xP ux66) (b := ?_)
   refine PF (a := xf fo25_0) (b := ?_)
   refine PT' (a := fun H => xl 0 (.slice A1 a0.Items.length cp2) sc22 (H.c 0)) (b := ?_)
   refine PF (a := xm (ii y4_1)) (b := ?_)
   refine PF (a := x_indexAddr sl22 sz52 (by rfl) (by rfl) hA71 h68 h69) (b := ?_)
   refine PF (a := xf fo52_2) (b := ?_)
   refine PT' (a := fun H => xl 2 (.slice A85 el67.Tris.length cp86) sc44 (H.cellsR (i := 10) (by rfl))) (b := ?_)
   refine PF (a := x_len sl44 (by rfl)) (b := ?_)
   refine PF (a := x_min2 (by rfl) (by rfl)) (b := ?_)
   refine PF (a := xX ux92) (b := ?_)
   refine PF (a := xP ux93) (b := ?_)
   refine PF (a := xP ux94) (b := ?_)
   refine PF (a := xa (ii x94)) (b := ?_)
   refine PR_nil ?_
   have H : S5_0 ok w w95 b9 A1 a0 cp2 A5 cp6 := (H.pick [0, 1])
   refine W_region ?_
   refine RL_p (xm (ii y4_1)) ?_
   obtain ⟨x96, ex96, qx96, ux96, hm⟩ := ck_some hm
   refine RL_p (xP ux96) ?_
   refine RL_p (xa (ii x96)) ?_
   refine RL_nil ?_
   subst hrec1
   exact ⟨k1, Nat.lt_succ_self k1, x94, x96, hm, ⟨rfl, rfl, rfl, trivial⟩, H⟩
  have hm := cond_f hb hm
  refine W_exit ?_
  refine W_seq ?_
  refine Wr ?_
  refine RL_p (xa (ii 0)) ?_
  refine W_block ?_
  refine W_loop (fun k2 r' w' => ∃ (y3_2 : Int), ∃ (y5_2 : Int), m5_l2 K a0 k2 y3_2 y5_2 = some res ∧ Agr [(1, pp b9), (3, ii y3_2), (5, ii y5_2)] r' ∧ S5_0 ok w w' b9 A1 a0 cp2 A5 cp6) K ?_ ?_
  ·exact ⟨y3_1, 0, hm, ⟨rfl, rfl, rfl, trivial⟩, H⟩
  rintro k2 r' w' ⟨y3_2, y5_2, hm, hA, H⟩
  obtain ⟨r97, rfl⟩ := regen _ hA; clear hA
  obtain ⟨w98, rfl⟩ := wld w'
  cases k2 with
  | zero => exact (none_some hm).elim
  | succ k2 =>
   have hm : m5_l2b K a0 (m5_l2 K a0 k2) y3_2 y5_2 = some res := hm
   unfold m5_l2b at hm
   obtain ⟨rec2, hrec2⟩ : ∃ f, m5_l2 K a0 k2 = f := ⟨_, rfl⟩
   rw [hrec2] at hm
   refine W_seq ?_
   refine Wr ?_
   refine RL_p (xm (ii y5_2)) ?_
   refine RL_p (xf fo25_1) ?_
   refine RL_p (xl 1 (.slice A5 a0.Textures.length cp6) sc23 (H.c 0)) ?_
   refine RL_p (x_len sl23 (by rfl)) ?_
   refine RL_p (xL) ?_
   refine RL_p (xm (.bool (decide (y5_2 < (a0.Textures.length : Int))))) ?_
   obtain ⟨b99, hmS, hm⟩ := bind_some hm
   refine RL_cut 3 (fun r' w' => Agr [(54, .bool b99), (1, pp b9), (3, ii y3_2), (5, ii y5_2)] r' ∧ S5_0 ok w w' b9 A1 a0 cp2 A5 cp6) ?_ ?_
   ·cases hbS : (decide (y5_2 < (a0.Textures.length : Int)))
    ·have hm := cond_f hbS hmS
     refine RO ?_
     refine RO ?_
     refine RL_p (xF (.bool false)) ?_
     refine RL_nil ?_
     exact ⟨⟨congrArg Value.bool (Option.some.inj hm), rfl, rfl, rfl, trivial⟩, H⟩
    have hm := cond_t hbS hmS
    refine RQ (xm (ii y5_2)) ?_
    refine RQ (xL) ?_
    refine RL_p (xT (.bool (decide (y5_2 < 100)))) ?_
    refine RL_nil ?_
    exact ⟨⟨congrArg Value.bool (Option.some.inj hm), rfl, rfl, rfl, trivial⟩, H⟩
   rintro r' w' ⟨hA, H⟩
   obtain ⟨r100, rfl⟩ := regen _ hA; clear hA
   obtain ⟨w101, rfl⟩ := wld w'
   show RL _ _ _ _ _ _ _
   refine Wc (fun hb => ?_) (fun hb => ?_)
   ·have hm := cond_t hb hm
    refine W_skip ?_
    refine W_seq ?_
    refine W_block ?_
    refine W_region ?_
    refine RL_p (xm (ii y3_2)) ?_
    refine RL_p (xf fo25_1) ?_
    refine RL_p (xl 1 (.slice A5 a0.Textures.length cp6) sc23 (H.c 0)) ?_
    refine RL_p (xm (ii y5_2)) ?_
    obtain ⟨el102, h103, h104, he105, hm⟩ := idx_some hm
    obtain ⟨g107, o108, hA106⟩ := (H.rd (i := 1) (by rfl)).addr he105
    obtain ⟨cs109, hk110, hat111, hg_cs109⟩ := (H.rd (i := 1) (by rfl)).openAt hA106 he105
    obtain ⟨A114, cp115, rfl, hR117⟩ := hk110
    have H : Sep ok w w101 [.blk b9 25 (L5_0 A1 a0 cp2 A5 cp6)] [RE.rd k_Item A1 cp2 a0.Items, RE.rd k_Texture A5 cp6 a0.Textures, RE.cells g107 (o108 + (y5_2).toNat * 3) (L5_2 el102 A114 cp115)] := Sep.also H (re := RE.cells g107 (o108 + (y5_2).toNat * 3) (L5_2 el102 A114 cp115)) ⟨hg_cs109, hat111⟩
    have H : Sep ok w w101 [.blk b9 25 (L5_0 A1 a0 cp2 A5 cp6)] [RE.rd k_Item A1 cp2 a0.Items, RE.rd k_Texture A5 cp6 a0.Textures, RE.cells g107 (o108 + (y5_2).toNat * 3) (L5_2 el102 A114 cp115), RE.rd k_Ar4_Int A114 cp115 el102.Texels] := Sep.also H (re := RE.rd k_Ar4_Int A114 cp115 el102.Texels) hR117
    refine RL_p (x_indexAddr sl23 sz64 (by rfl) (by rfl) hA106 h103 h104) ?_
    refine RL_p (xf fo64_2) ?_
    refine RL_p (xl 2 (.slice A114 el102.Texels.length cp115) sc62 (H.cellsR (i := 2) (by rfl))) ?_
    refine RL_p (x_len sl62 (by rfl)) ?_
    refine RL_p (x_min2 (by rfl) (by rfl)) ?_
    obtain ⟨x119, ex119, qx119, ux119, hm⟩ := ck_some hm
    refine RL_p (x_quo (by rfl) (by rfl) (by decide) ux119) ?_
    obtain ⟨x120, ex120, qx120, ux120, hm⟩ := ck_some hm
    refine RL_p (xP ux120) ?_
    refine RL_p (xa (ii x120)) ?_
    refine RL_nil ?_
    have H : S5_0 ok w w101 b9 A1 a0 cp2 A5 cp6 := (H.pick [0, 1])
    refine W_region ?_
    refine RL_p (xm (ii y5_2)) ?_
    obtain ⟨x121, ex121, qx121, ux121, hm⟩ := ck_some hm
    refine RL_p (xP ux121) ?_
    refine RL_p (xa (ii x121)) ?_
    refine RL_nil ?_
    subst hrec2
    exact ⟨k2, Nat.lt_succ_self k2, x120, x121, hm, ⟨rfl, rfl, rfl, trivial⟩, H⟩
   have hm := cond_f hb hm
   refine W_exit ?_
   refine Wr ?_
   refine RL_p (xf fo25_0) ?_
   refine RL_p (xl 0 (.slice A1 a0.Items.length cp2) sc22 (H.c 0)) ?_
   refine RL_p (x_len sl22 (by rfl)) ?_
   refine RL_p (xG) ?_
   refine RL_p (xm (.bool (decide (100 < (a0.Items.length : Int))))) ?_
   obtain ⟨b122, hmS, hm⟩ := bind_some hm
   refine RL_cut 3 (fun r' w' => Agr [(75, .bool b122), (1, pp b9)] r' ∧ S5_0 ok w w' b9 A1 a0 cp2 A5 cp6) ?_ ?_
   ·cases hbS : (decide (100 < (a0.Items.length : Int)))
    ·have hm := cond_f hbS hmS
     refine RQ (xm (ii y3_2)) ?_
     refine RQ (xG) ?_
     refine RL_p (xF (.bool (decide (600 < y3_2)))) ?_
     refine RL_nil ?_
     exact ⟨⟨congrArg Value.bool (Option.some.inj hm), rfl, trivial⟩, H⟩
    have hm := cond_t hbS hmS
    refine RO ?_
    refine RO ?_
    refine RL_p (xT (.bool true)) ?_
    refine RL_nil ?_
    exact ⟨⟨congrArg Value.bool (Option.some.inj hm), rfl, trivial⟩, H⟩
   rintro r' w' ⟨hA, H⟩
   obtain ⟨r123, rfl⟩ := regen _ hA; clear hA
   obtain ⟨w124, rfl⟩ := wld w'
   refine RL_p (xm (.bool b122)) ?_
   obtain ⟨b125, hmS, hm⟩ := bind_some hm
   refine RL_cut 5 (fun r' w' => Agr [(81, .bool b125)] r' ∧ S5_0 ok w w' b9 A1 a0 cp2 A5 cp6) ?_ ?_
   ·cases hbS : b122
    ·have hm := cond_f hbS hmS
     refine RQ (xf fo25_1) ?_
     refine RQ (xl 1 (.slice A5 a0.Textures.length cp6) sc23 (H.c 0)) ?_
     refine RQ (x_len sl23 (by rfl)) ?_
     refine RQ (xG) ?_
     refine RL_p (xF (.bool (decide (40 < (a0.Textures.length : Int))))) ?_
     refine RL_nil ?_
     exact ⟨⟨congrArg Value.bool (Option.some.inj hm), trivial⟩, H⟩
    have hm := cond_t hbS hmS
    refine RO ?_
    refine RO ?_
    refine RO ?_
    refine RO ?_
    refine RL_p (xT (.bool true)) ?_
    refine RL_nil ?_
    exact ⟨⟨congrArg Value.bool (Option.some.inj hm), trivial⟩, H⟩
   rintro r' w' ⟨hA, H⟩
   obtain ⟨r126, rfl⟩ := regen _ hA; clear hA
   obtain ⟨w127, rfl⟩ := wld w'
   refine RL_p (xa (.bool b125)) ?_
   refine W_ret ?_
   obtain rfl := Option.some.inj hm
   exact ⟨[.bool b125], (.tmp (by rfl) rfl), rfl, H.none_⟩
end Go.Proofs.YtobkigllalbkiaaV.D

/- A plain Lean function that answers as the Go function does (none: not told), and the proof that a call answers so. Written by program. -/
set_option linter.unusedVariables false
set_option maxRecDepth 100000
set_option maxHeartbeats 4000000
namespace Go.Proofs.YtobkigllalbkiaaV.D
open Go.RowKit Go.Proofs.YtobkigllalbkiaaV
abbrev L13_0 (q0 : S_Frag) : List Value := [ii q0.D, ii q0.Item, ii q0.Tri, ii q0.Part, ii q0.U, ii q0.V]
def m13 (K : Nat) (a0 : S_Frag) (f0 : (List S_Frag)) : Option ((List S_Frag)) :=
 (apd 48 f0 a0 fun l13 => some l13)
theorem c13 (ok : Okp) (K : Nat) (w0 w : World) (Rx : List RE) (a0 : S_Frag) (f0 : (List S_Frag)) (g1 : Nat) (A2 : Option Addr) (cp3 : Nat) (cs4 : List Value) (H : Sep ok w0 w [.blk g1 36 [.slice A2 f0.length cp3], .row (.slice A2 f0.length cp3) 54 k_Frag.sz f0.length cs4] (RE.chunks k_Frag cs4 f0 :: Rx)) (res : (List S_Frag)) (hm : m13 K a0 f0 = some res) :
  Calls Tryd.prog 13 #[.agg (L13_0 a0).toArray, pp g1] w (fun e w' => ∃ (A0_ : Option Addr) (c0_ : Nat) (s0_ : List Value), e = .returned (tup []) ∧ Sep ok w0 w' [.blk g1 36 [.slice A0_ res.length c0_], .row (.slice A0_ res.length c0_) 54 k_Frag.sz res.length s0_] (RE.chunks k_Frag s0_ res :: Rx)) := by
 refine calls_W (args := [.agg (L13_0 a0).toArray, pp g1]) Tryd.func13 rfl Tryd.ntmps13 Tryd.results13 rfl fun r hr => ?_
 obtain ⟨r1, rfl⟩ := regen (r := r) [(0, .agg (L13_0 a0).toArray), (1, pp g1)] ⟨hr 0 _ rfl, hr 1 _ rfl, trivial⟩
 unfold m13 at hm
 refine Wr ?_
 refine RL_cons (OB H (fun w6 b5 (H : Sep ok w0 w6 [.blk g1 36 [.slice A2 f0.length cp3], .row (.slice A2 f0.length cp3) 54 k_Frag.sz f0.length cs4, .blk b5 54 (L13_0 a0)] (RE.chunks k_Frag cs4 f0 :: Rx)) => ?_))
 refine W_region ?_
 refine RL_p (xl 0 (.slice A2 f0.length cp3) sc36 (H.c 0)) ?_
 refine RL_p (xA 0 (L13_0 a0) ag54 (H.c 2)) ?_
 refine RL_cons (O_buildSlice (vs := [(0, .agg (L13_0 a0).toArray)]) (cs := [ii a0.D, ii a0.Item, ii a0.Tri, ii a0.Part, ii a0.U, ii a0.V]) (by exact wn0 rfl) (by rfl) sl36 sz54 ze54 (by rfl) (by rfl) (by rfl) (by kernel_rfl) H (fun w8 b7 (H : Sep ok w0 w8 [.blk g1 36 [.slice A2 f0.length cp3], .row (.slice A2 f0.length cp3) 54 k_Frag.sz f0.length cs4, .blk b5 54 (L13_0 a0), .blk b7 54 (L13_0 a0)] (RE.chunks k_Frag cs4 f0 :: Rx)) => ?_))
 obtain ⟨l13, hl14, hb15, hm⟩ := apd_some hm
 refine RL_cons (O_append (D := k_Frag) (i := 1) (j := 0) (o := 0) (y := a0) (by exact wn0 rfl) (by rfl) (by rfl) (by rfl) H (by rfl) (by rfl) (H.c 3) rfl hl14 sl36 sz54 by54 ze54 (by rfl) (by rfl) hb15 (by rfl) (fun w9 A10 cp11 cs12 (H : Sep ok w0 w9 [.blk g1 36 [.slice A2 f0.length cp3], .row (.slice A10 l13.length cp11) 54 k_Frag.sz l13.length cs12, .blk b5 54 (L13_0 a0), .blk b7 54 (L13_0 a0)] (RE.chunks k_Frag cs12 l13 :: Rx)) => ?_))
 refine RL_cons (OS 0 0 [.slice A10 l13.length cp11] sz36 H (fun w16 (H : Sep ok w0 w16 [.blk g1 36 [.slice A10 l13.length cp11], .row (.slice A10 l13.length cp11) 54 k_Frag.sz l13.length cs12, .blk b5 54 (L13_0 a0), .blk b7 54 (L13_0 a0)] (RE.chunks k_Frag cs12 l13 :: Rx)) => ?_))
 refine RL_nil ?_
 obtain rfl := Option.some.inj hm
 exact ⟨[], rfl, A10, cp11, cs12, rfl, (H.pickL [0, 1] (by decide))⟩
end Go.Proofs.YtobkigllalbkiaaV.D

/- A plain Lean function that answers as the Go function does (none: not told), and the proof that a call answers so. Written by program. -/
set_option linter.unusedVariables false
set_option maxRecDepth 100000
set_option maxHeartbeats 4000000
namespace Go.Proofs.YtobkigllalbkiaaV.D
open Go.RowKit Go.Proofs.YtobkigllalbkiaaV
abbrev L6_0 (q0 : Option Addr) (q1 : S_Show) (q2 : Nat) (q3 : Option Addr) (q4 : Nat) : List Value := [.slice q0 q1.Items.length q2, .slice q3 q1.Textures.length q4]
abbrev L6_1 (q0 : S_Camera) : List Value := [ii q0.Pos.X, ii q0.Pos.Y, ii q0.Pos.Z, ii q0.M.a0.a0, ii q0.M.a0.a1, ii q0.M.a0.a2, ii q0.M.a1.a0, ii q0.M.a1.a1, ii q0.M.a1.a2, ii q0.M.a2.a0, ii q0.M.a2.a1, ii q0.M.a2.a2, ii q0.Focal, ii q0.Near, ii q0.W, ii q0.H]
abbrev L6_2 (q0 : Option Addr) (q1 : S_scene × Int) (q2 : Nat) (q3 : Option Addr) (q4 : Nat) (q5 : Option Addr) (q6 : Nat) : List Value := [.slice q0 q1.1.Show.Items.length q2, .slice q3 q1.1.Show.Textures.length q4, .slice q5 q1.1.parts.length q6]
abbrev L6_3  : List Value := [.slice none 0 0, .slice none 0 0, .slice none 0 0]
def m6 (K : Nat) (a0 : S_Show) (a1 : S_Camera) (a2 : Int) (a3 : Int) : Option ((List S_Frag) × Int) :=
 ((m11 K a0 a1 a2 a3).bind fun v16 => (bif (v16.2 == 0) then ((m12 K (fun l f => m13 K f l) a2 a3 v16.1.parts []).bind fun l => some (l, v16.2)) else some ([], v16.2)))
theorem c6 (ok : Okp) (K : Nat) (w : World) (a0 : S_Show) (A1 : Option Addr) (cp2 : Nat) (A5 : Option Addr) (cp6 : Nat) (a1 : S_Camera) (a2 : Int) (a3 : Int) (hR3 : Rd k_Item w ok A1 cp2 a0.Items) (hR7 : Rd k_Texture w ok A5 cp6 a0.Textures) (res : (List S_Frag) × Int) (hm : m6 K a0 a1 a2 a3 = some res) :
  Calls Tryd.prog 6 #[.agg (L6_0 A1 a0 cp2 A5 cp6).toArray, .agg (L6_1 a1).toArray, ii a2, ii a3] w (fun e w' => ∃ (A0_ : Option Addr) (c0_ : Nat), e = .returned (tup [.slice A0_ res.1.length c0_, ii res.2]) ∧ Sep ok w w' [] [RE.rd k_Frag A0_ c0_ res.1]) := by
 refine calls_W (args := [.agg (L6_0 A1 a0 cp2 A5 cp6).toArray, .agg (L6_1 a1).toArray, ii a2, ii a3]) Tryd.func6 rfl Tryd.ntmps6 Tryd.results6 rfl fun r hr => ?_
 obtain ⟨r1, rfl⟩ := regen (r := r) [(0, .agg (L6_0 A1 a0 cp2 A5 cp6).toArray), (1, .agg (L6_1 a1).toArray), (2, ii a2), (3, ii a3)] ⟨hr 0 _ rfl, hr 1 _ rfl, hr 2 _ rfl, hr 3 _ rfl, trivial⟩
 have H : Sep ok w w [] [RE.rd k_Item A1 cp2 a0.Items, RE.rd k_Texture A5 cp6 a0.Textures] := Sep.arg (Sep.arg (Sep.start ok w) (re := RE.rd k_Item A1 cp2 a0.Items) rfl rfl hR3) (re := RE.rd k_Texture A5 cp6 a0.Textures) rfl rfl hR7
 unfold m6 at hm
 refine Wr ?_
 refine RL_cons (OB H (fun w10 b9 (H : Sep ok w w10 [.blk b9 25 (L6_0 A1 a0 cp2 A5 cp6)] [RE.rd k_Item A1 cp2 a0.Items, RE.rd k_Texture A5 cp6 a0.Textures]) => ?_))
 refine RL_cons (OB H (fun w12 b11 (H : Sep ok w w12 [.blk b9 25 (L6_0 A1 a0 cp2 A5 cp6), .blk b11 31 (L6_1 a1)] [RE.rd k_Item A1 cp2 a0.Items, RE.rd k_Texture A5 cp6 a0.Textures]) => ?_))
 refine RL_cons (OA ze36 H (fun w14 b13 (H : Sep ok w w14 [.blk b9 25 (L6_0 A1 a0 cp2 A5 cp6), .blk b11 31 (L6_1 a1), .blk b13 36 [.slice none 0 0]] [RE.rd k_Item A1 cp2 a0.Items, RE.rd k_Texture A5 cp6 a0.Textures]) => ?_))
 refine RL_p (xa (ii 0)) ?_
 refine Wr ?_
 refine RL_p (xA 0 (L6_0 A1 a0 cp2 A5 cp6) ag25 (H.c 0)) ?_
 refine RL_p (xA 0 (L6_1 a1) ag31 (H.c 1)) ?_
 refine RL_p (xm (ii a2)) ?_
 refine RL_p (xm (ii a3)) ?_
 obtain ⟨v16, hv15, hm⟩ := bind_some hm
 refine RL_cons (OC (xc [.agg (L6_0 A1 a0 cp2 A5 cp6).toArray, .agg (L6_1 a1).toArray, ii a2, ii a3] (cf11 _ _)) (c11 (okS ok w [.blk b9 25 (L6_0 A1 a0 cp2 A5 cp6), .blk b11 31 (L6_1 a1), .blk b13 36 [.slice none 0 0]]) K w14 a0 A1 cp2 A5 cp6 a1 a2 a3 (H.rd (i := 0) (by rfl)) (H.rd (i := 1) (by rfl)) v16 hv15) ?_)
 rintro e w17 ⟨A18, cp19, A21, cp22, A24, cp25, rfl, H2⟩
 have H : Sep ok w w17 [.blk b9 25 (L6_0 A1 a0 cp2 A5 cp6), .blk b11 31 (L6_1 a1), .blk b13 36 [.slice none 0 0]] [RE.rd k_Item A1 cp2 a0.Items, RE.rd k_Texture A5 cp6 a0.Textures, RE.rd k_Item A18 cp19 v16.1.Show.Items, RE.rd k_Texture A21 cp22 v16.1.Show.Textures, RE.rd k_part A24 cp25 v16.1.parts] := H.call H2
 clear H2
 refine ⟨_, rfl, ?_⟩
 refine RL_p (xm (tup [.agg (L6_2 A18 v16 cp19 A21 cp22 A24 cp25).toArray, ii v16.2])) ?_
 refine RL_p (xe (.agg (L6_2 A18 v16 cp19 A21 cp22 A24 cp25).toArray)) ?_
 refine RL_p (xe (ii v16.2)) ?_
 refine RL_cons (OA ze67 H (fun w28 b27 (H : Sep ok w w28 [.blk b9 25 (L6_0 A1 a0 cp2 A5 cp6), .blk b11 31 (L6_1 a1), .blk b13 36 [.slice none 0 0], .blk b27 67 L6_3] [RE.rd k_Item A1 cp2 a0.Items, RE.rd k_Texture A5 cp6 a0.Textures, RE.rd k_Item A18 cp19 v16.1.Show.Items, RE.rd k_Texture A21 cp22 v16.1.Show.Textures, RE.rd k_part A24 cp25 v16.1.parts]) => ?_))
 refine RL_cons (OS 3 0 (L6_2 A18 v16 cp19 A21 cp22 A24 cp25) sz67 H (fun w29 (H : Sep ok w w29 [.blk b9 25 (L6_0 A1 a0 cp2 A5 cp6), .blk b11 31 (L6_1 a1), .blk b13 36 [.slice none 0 0], .blk b27 67 (L6_2 A18 v16 cp19 A21 cp22 A24 cp25)] [RE.rd k_Item A1 cp2 a0.Items, RE.rd k_Texture A5 cp6 a0.Textures, RE.rd k_Item A18 cp19 v16.1.Show.Items, RE.rd k_Texture A21 cp22 v16.1.Show.Textures, RE.rd k_part A24 cp25 v16.1.parts]) => ?_))
 refine RL_p (xa (ii v16.2)) ?_
 refine W_seq ?_
 refine W_seq ?_
 have H : Sep ok w w29 [.blk b13 36 [.slice none 0 0], .blk b27 67 (L6_2 A18 v16 cp19 A21 cp22 A24 cp25)] [RE.rd k_Item A18 cp19 v16.1.Show.Items, RE.rd k_Texture A21 cp22 v16.1.Show.Textures, RE.rd k_part A24 cp25 v16.1.parts] := ((H.pickL [2, 3] (by decide)).pick [2, 3, 4])
 refine W_region ?_
 refine RL_p (xm (ii v16.2)) ?_
 refine RL_p (x_eql (by rfl) (by rfl)) ?_
 refine Wc (fun hb => ?_) (fun hb => ?_)
 ·have hm := cond_t hb hm
  refine W_region ?_
  refine RL_p (xA 0 (L6_2 A18 v16 cp19 A21 cp22 A24 cp25) ag67 (H.c 1)) ?_
  refine RL_p (xm (ii a2)) ?_
  refine RL_p (xm (ii a3)) ?_
  refine RL_p (x_makeFunc (vs := [pp b13]) (by rfl)) ?_
  obtain ⟨l, hl, hm⟩ := bind_some hm
  have H0 := (((H.takeL 1).pick [2]).nilRowK 54 k_Frag).pick [1, 0]
  refine RL_cons (OC (xc [.agg (L6_2 A18 v16 cp19 A21 cp22 A24 cp25).toArray, ii a2, ii a3, .func (.func 13) #[] #[pp b13]] (cf12 _ _)) (c12 (fun (l : List S_Frag) (wS : World) => ∃ (A : Option Addr) (c : Nat) (cs : List Value), Sep ok w wS [.blk b13 36 [.slice A l.length c], .row (.slice A l.length c) 54 k_Frag.sz l.length cs] [RE.chunks k_Frag cs l, RE.rd k_part A24 cp25 v16.1.parts]) (fun l f => m13 K f l) 13 [pp b13] K A18 cp19 _ A21 cp22 _ A24 cp25 v16.1.parts a2 a3 (fun l wS ⟨A, c, cs, h⟩ => (h.rd (i := 1) (by rfl)).any) (fun l wS w2 ⟨A, c, cs, h⟩ hw => ⟨A, c, cs, h.below hw⟩) cf13 (fun l wS f l2 ⟨A, c, cs, h⟩ hq => (c13 ok K w wS [RE.rd k_part A24 cp25 v16.1.parts] f l b13 A c cs h l2 hq).mono fun e w2 ⟨A2, c2, cs2, he, h2⟩ => ⟨he, A2, c2, cs2, h2⟩) [] w29 ⟨none, 0, [], H0⟩ l hl) ?_)
  rintro e w30 ⟨rfl, A31, cp32, cs33, H⟩
  refine ⟨_, rfl, ?_⟩
  show RL _ _ _ _ _ _ _
  refine Wr ?_
  refine RL_p (xl 0 (.slice A31 l.length cp32) sc36 (H.c 0)) ?_
  refine RL_p (xm (ii v16.2)) ?_
  refine RL_cons (OS 0 0 [.slice A31 l.length cp32] sz36 H (fun w34 (H : Sep ok w w34 [.blk b13 36 [.slice A31 l.length cp32], .row (.slice A31 l.length cp32) 54 k_Frag.sz l.length cs33] [RE.chunks k_Frag cs33 l, RE.rd k_part A24 cp25 v16.1.parts]) => ?_))
  refine RL_p (xa (ii v16.2)) ?_
  refine W_ret ?_
  have HF := H
  have H := H.frozen (i := 1) (j := 0) (by rfl) (by rfl)
  obtain rfl := Option.some.inj hm
  exact ⟨[.slice A31 l.length cp32, ii v16.2], (.cellS (by rfl) sc36 (HF.c 0) (.tmp (by rfl) rfl)), A31, cp32, rfl, (H.forgetAll).pick [0]⟩
 have hm := cond_f hb hm
 refine W_skip ?_
 refine W_seq ?_
 have H : Sep ok w w29 [.blk b13 36 [.slice none 0 0]] [] := ((H.takeL 1).pick [])
 refine W_region ?_
 refine RL_p (xl 0 (.slice none 0 0) sc36 (H.c 0)) ?_
 refine RL_p (xm (ii v16.2)) ?_
 refine RL_cons (OS 0 0 [.slice none 0 0] sz36 H (fun w30 (H : Sep ok w w30 [.blk b13 36 [.slice none 0 0]] []) => ?_))
 refine RL_p (xa (ii v16.2)) ?_
 refine W_ret ?_
 have H : Sep ok w w30 [.blk b13 36 [.slice none 0 0]] [RE.rd k_Frag none 0 ([])] := Sep.also H (re := RE.rd k_Frag none 0 ([])) (Rd.nil (by decide))
 obtain rfl := Option.some.inj hm
 exact ⟨[.slice none 0 0, ii v16.2], (.cellS (by rfl) sc36 (H.c 0) (.tmp (by rfl) rfl)), none, 0, rfl, (H.forgetAll).pick [0]⟩
end Go.Proofs.YtobkigllalbkiaaV.D

/- A plain Lean function that answers as the Go function does (none: not told), and the proof that a call answers so. Written by program. -/
set_option linter.unusedVariables false
set_option maxRecDepth 100000
set_option maxHeartbeats 4000000
namespace Go.Proofs.YtobkigllalbkiaaV.D
open Go.RowKit Go.Proofs.YtobkigllalbkiaaV
abbrev L7_0 (q0 : S_Rect) : List Value := [ii q0.X0, ii q0.Y0, ii q0.X1, ii q0.Y1]
def m7 (K : Nat) (a0 : S_Rect) (a1 : Int) (a2 : Int) : Option (Bool) :=
 ((bif (decide (a0.X0 ≤ a1)) then some (decide (a1 ≤ a0.X1)) else some false).bind fun b3 => ((bif b3 then some (decide (a0.Y0 ≤ a2)) else some false).bind fun b6 => ((bif b6 then some (decide (a2 ≤ a0.Y1)) else some false).bind fun b9 => some b9)))
theorem c7 (ok : Okp) (K : Nat) (w : World) (a0 : S_Rect) (a1 : Int) (a2 : Int)  (res : Bool) (hm : m7 K a0 a1 a2 = some res) :
  Calls Tryd.prog 7 #[.agg (L7_0 a0).toArray, ii a1, ii a2] w (fun e w' => e = .returned (tup [.bool res]) ∧ Sep ok w w' [] []) := by
 refine calls_W (args := [.agg (L7_0 a0).toArray, ii a1, ii a2]) Tryd.func7 rfl Tryd.ntmps7 Tryd.results7 rfl fun r hr => ?_
 obtain ⟨r1, rfl⟩ := regen (r := r) [(0, .agg (L7_0 a0).toArray), (1, ii a1), (2, ii a2)] ⟨hr 0 _ rfl, hr 1 _ rfl, hr 2 _ rfl, trivial⟩
 have H : Sep ok w w [] [] := Sep.start ok w
 unfold m7 at hm
 refine Wr ?_
 refine RL_cons (OB H (fun w2 b1 (H : Sep ok w w2 [.blk b1 33 (L7_0 a0)] []) => ?_))
 refine RL_p (xa (.bool false)) ?_
 refine Wr ?_
 refine RL_p (xm (ii a1)) ?_
 refine RL_p (xf fo33_0) ?_
 refine RL_p (xl 0 (ii a0.X0) sc3 (H.c 0)) ?_
 refine RL_p (x_geq (by rfl) (by rfl)) ?_
 refine RL_p (xm (.bool (decide (a0.X0 ≤ a1)))) ?_
 obtain ⟨b3, hmS, hm⟩ := bind_some hm
 refine RL_cut 5 (fun r' w' => Agr [(16, .bool b3), (2, ii a2), (3, pp b1)] r' ∧ Sep ok w w' [.blk b1 33 (L7_0 a0)] []) ?_ ?_
 ·cases hbS : (decide (a0.X0 ≤ a1))
  ·have hm := cond_f hbS hmS
   refine RO ?_
   refine RO ?_
   refine RO ?_
   refine RO ?_
   refine RL_p (xF (.bool false)) ?_
   refine RL_nil ?_
   exact ⟨⟨congrArg Value.bool (Option.some.inj hm), rfl, rfl, trivial⟩, H⟩
  have hm := cond_t hbS hmS
  refine RQ (xm (ii a1)) ?_
  refine RQ (xf fo33_2) ?_
  refine RQ (xl 2 (ii a0.X1) sc3 (H.c 0)) ?_
  refine RQ (x_leq (by rfl) (by rfl)) ?_
  refine RL_p (xT (.bool (decide (a1 ≤ a0.X1)))) ?_
  refine RL_nil ?_
  exact ⟨⟨congrArg Value.bool (Option.some.inj hm), rfl, rfl, trivial⟩, H⟩
 rintro r' w' ⟨hA, H⟩
 obtain ⟨r4, rfl⟩ := regen _ hA; clear hA
 obtain ⟨w5, rfl⟩ := wld w'
 refine RL_p (xm (.bool b3)) ?_
 obtain ⟨b6, hmS, hm⟩ := bind_some hm
 refine RL_cut 5 (fun r' w' => Agr [(22, .bool b6), (2, ii a2), (3, pp b1)] r' ∧ Sep ok w w' [.blk b1 33 (L7_0 a0)] []) ?_ ?_
 ·cases hbS : b3
  ·have hm := cond_f hbS hmS
   refine RO ?_
   refine RO ?_
   refine RO ?_
   refine RO ?_
   refine RL_p (xF (.bool false)) ?_
   refine RL_nil ?_
   exact ⟨⟨congrArg Value.bool (Option.some.inj hm), rfl, rfl, trivial⟩, H⟩
  have hm := cond_t hbS hmS
  refine RQ (xm (ii a2)) ?_
  refine RQ (xf fo33_1) ?_
  refine RQ (xl 1 (ii a0.Y0) sc3 (H.c 0)) ?_
  refine RQ (x_geq (by rfl) (by rfl)) ?_
  refine RL_p (xT (.bool (decide (a0.Y0 ≤ a2)))) ?_
  refine RL_nil ?_
  exact ⟨⟨congrArg Value.bool (Option.some.inj hm), rfl, rfl, trivial⟩, H⟩
 rintro r' w' ⟨hA, H⟩
 obtain ⟨r7, rfl⟩ := regen _ hA; clear hA
 obtain ⟨w8, rfl⟩ := wld w'
 refine RL_p (xm (.bool b6)) ?_
 obtain ⟨b9, hmS, hm⟩ := bind_some hm
 refine RL_cut 5 (fun r' w' => Agr [(28, .bool b9)] r' ∧ Sep ok w w' [.blk b1 33 (L7_0 a0)] []) ?_ ?_
 ·cases hbS : b6
  ·have hm := cond_f hbS hmS
   refine RO ?_
   refine RO ?_
   refine RO ?_
   refine RO ?_
   refine RL_p (xF (.bool false)) ?_
   refine RL_nil ?_
   exact ⟨⟨congrArg Value.bool (Option.some.inj hm), trivial⟩, H⟩
  have hm := cond_t hbS hmS
  refine RQ (xm (ii a2)) ?_
  refine RQ (xf fo33_3) ?_
  refine RQ (xl 3 (ii a0.Y1) sc3 (H.c 0)) ?_
  refine RQ (x_leq (by rfl) (by rfl)) ?_
  refine RL_p (xT (.bool (decide (a2 ≤ a0.Y1)))) ?_
  refine RL_nil ?_
  exact ⟨⟨congrArg Value.bool (Option.some.inj hm), trivial⟩, H⟩
 rintro r' w' ⟨hA, H⟩
 obtain ⟨r10, rfl⟩ := regen _ hA; clear hA
 obtain ⟨w11, rfl⟩ := wld w'
 refine RL_p (xa (.bool b9)) ?_
 refine W_ret ?_
 obtain rfl := Option.some.inj hm
 exact ⟨[.bool b9], (.tmp (by rfl) rfl), rfl, H.none_⟩
end Go.Proofs.YtobkigllalbkiaaV.D

/- A plain Lean function that answers as the Go function does (none: not told), and the proof that a call answers so. Written by program. -/
set_option linter.unusedVariables false
set_option maxRecDepth 100000
set_option maxHeartbeats 4000000
namespace Go.Proofs.YtobkigllalbkiaaV.D
open Go.RowKit Go.Proofs.YtobkigllalbkiaaV
abbrev L8_0 (q0 : S_Camera) : List Value := [ii q0.Pos.X, ii q0.Pos.Y, ii q0.Pos.Z, ii q0.M.a0.a0, ii q0.M.a0.a1, ii q0.M.a0.a2, ii q0.M.a1.a0, ii q0.M.a1.a1, ii q0.M.a1.a2, ii q0.M.a2.a0, ii q0.M.a2.a1, ii q0.M.a2.a2, ii q0.Focal, ii q0.Near, ii q0.W, ii q0.H]
abbrev L8_1 (q0 : S_Rect) : List Value := [ii q0.X0, ii q0.Y0, ii q0.X1, ii q0.Y1]
def m8 (K : Nat) (a0 : S_Camera) (a1 : S_Rect) : Option (Int) :=
 ((m14 K a0).bind fun v6 => (bif (v6 != 0) then some v6 else (ck (a0.W - 1) fun x8 => ((m15 K a1.X1 (mx 0 a1.X0) x8).bind fun v10 => ((bif (!v10) then some true else (ck (a0.H - 1) fun x13 => ((m15 K a1.Y1 (mx 0 a1.Y0) x13).bind fun v15 => some (!v15)))).bind fun b12 => ((bif b12 then some true else some (decide (a1.X0 < 0))).bind fun b19 => ((bif b19 then some true else some (decide (a1.Y0 < 0))).bind fun b22 => (bif b22 then some 2 else some 0))))))))
abbrev S8_0 (q0 : Okp) (q1 q2 : World) (q3 : Nat) (q4 : S_Camera) (q5 : Nat) (q6 : S_Rect) : Prop := Sep q0 q1 q2 [.blk q3 31 (L8_0 q4), .blk q5 33 (L8_1 q6)] []
theorem c8 (ok : Okp) (K : Nat) (w : World) (a0 : S_Camera) (a1 : S_Rect)  (res : Int) (hm : m8 K a0 a1 = some res) :
  Calls Tryd.prog 8 #[.agg (L8_0 a0).toArray, .agg (L8_1 a1).toArray] w (fun e w' => e = .returned (tup [ii res]) ∧ Sep ok w w' [] []) := by
 refine calls_W (args := [.agg (L8_0 a0).toArray, .agg (L8_1 a1).toArray]) Tryd.func8 rfl Tryd.ntmps8 Tryd.results8 rfl fun r hr => ?_
 obtain ⟨r1, rfl⟩ := regen (r := r) [(0, .agg (L8_0 a0).toArray), (1, .agg (L8_1 a1).toArray)] ⟨hr 0 _ rfl, hr 1 _ rfl, trivial⟩
 have H : Sep ok w w [] [] := Sep.start ok w
 unfold m8 at hm
 refine Wr ?_
 refine RL_cons (OB H (fun w2 b1 (H : Sep ok w w2 [.blk b1 31 (L8_0 a0)] []) => ?_))
 refine RL_cons (OB H (fun w4 b3 (H : S8_0 ok w w4 b1 a0 b3 a1) => ?_))
 refine RL_p (xa (ii 0)) ?_
 refine W_seq ?_
 refine Wr ?_
 refine RL_p (xA 0 (L8_0 a0) ag31 (H.c 0)) ?_
 obtain ⟨v6, hv5, hm⟩ := bind_some hm
 refine RL_cons (OC (xc [.agg (L8_0 a0).toArray] (cf14 _ _)) (c14 okT K w4 a0  v6 hv5) ?_)
 rintro e w7 ⟨rfl, H2⟩
 have H : S8_0 ok w w7 b1 a0 b3 a1 := H.below H2.base
 clear H2
 refine ⟨_, rfl, ?_⟩
 refine RL_p (xa (ii v6)) ?_
 refine Wr ?_
 refine RL_p (xm (ii v6)) ?_
 refine RL_p (xN) ?_
 refine Wc (fun hb => ?_) (fun hb => ?_)
 ·have hm := cond_t hb hm
  refine Wr ?_
  refine RL_p (xm (ii v6)) ?_
  refine RL_p (xa (ii v6)) ?_
  refine W_ret ?_
  obtain rfl := Option.some.inj hm
  exact ⟨[ii v6], (.tmp (by rfl) rfl), rfl, H.none_⟩
 have hm := cond_f hb hm
 refine W_skip ?_
 refine W_seq ?_
 refine Wr ?_
 refine RL_p (xf fo33_2) ?_
 refine RL_p (xl 2 (ii a1.X1) sc3 (H.c 1)) ?_
 refine RL_p (xf fo33_0) ?_
 refine RL_p (xl 0 (ii a1.X0) sc3 (H.c 1)) ?_
 refine RL_p (x_max2 (by rfl) (by rfl)) ?_
 refine RL_p (xf fo31_4) ?_
 refine RL_p (xl 14 (ii a0.W) sc3 (H.c 0)) ?_
 obtain ⟨x8, ex8, qx8, ux8, hm⟩ := ck_some hm
 refine RL_p (xM ux8) ?_
 obtain ⟨v10, hv9, hm⟩ := bind_some hm
 refine RL_cons (OC (xc [ii a1.X1, ii (mx 0 a1.X0), ii x8] (cf15 _ _)) (c15 okT K w7 a1.X1 (mx 0 a1.X0) x8  v10 hv9) ?_)
 rintro e w11 ⟨rfl, H2⟩
 have H : S8_0 ok w w11 b1 a0 b3 a1 := H.below H2.base
 clear H2
 refine ⟨_, rfl, ?_⟩
 refine RL_p (x_not (by rfl)) ?_
 refine RL_p (xm (.bool (!v10))) ?_
 obtain ⟨b12, hmS, hm⟩ := bind_some hm
 refine RL_cut 11 (fun r' w' => Agr [(32, .bool b12), (3, pp b3)] r' ∧ S8_0 ok w w' b1 a0 b3 a1) ?_ ?_
 ·cases hbS : (!v10)
  ·have hm := cond_f hbS hmS
   refine RQ (xf fo33_3) ?_
   refine RQ (xl 3 (ii a1.Y1) sc3 (H.c 1)) ?_
   refine RQ (xf fo33_1) ?_
   refine RQ (xl 1 (ii a1.Y0) sc3 (H.c 1)) ?_
   refine RQ (x_max2 (by rfl) (by rfl)) ?_
   refine RQ (xf fo31_5) ?_
   refine RQ (xl 15 (ii a0.H) sc3 (H.c 0)) ?_
   obtain ⟨x13, ex13, qx13, ux13, hm⟩ := ck_some hm
   refine RQ (xM ux13) ?_
   obtain ⟨v15, hv14, hm⟩ := bind_some hm
   refine RL_cons (O_call (by exact wn1 rfl rfl rfl rfl) (by rfl) (by rfl) (xc [ii a1.Y1, ii (mx 0 a1.Y0), ii x13] (cf15 _ _)) (c15 okT K w11 a1.Y1 (mx 0 a1.Y0) x13  v15 hv14) ?_)
   rintro e w16 ⟨rfl, H2⟩
   have H : S8_0 ok w w16 b1 a0 b3 a1 := H.below H2.base
   clear H2
   refine ⟨_, rfl, ?_⟩
   refine RQ (x_not (by rfl)) ?_
   refine RL_p (xF (.bool (!v15))) ?_
   refine RL_nil ?_
   exact ⟨⟨congrArg Value.bool (Option.some.inj hm), rfl, trivial⟩, H⟩
  have hm := cond_t hbS hmS
  refine RO ?_
  refine RO ?_
  refine RO ?_
  refine RO ?_
  refine RO ?_
  refine RO ?_
  refine RO ?_
  refine RO ?_
  refine RO ?_
  refine RO ?_
  refine RL_p (xT (.bool true)) ?_
  refine RL_nil ?_
  exact ⟨⟨congrArg Value.bool (Option.some.inj hm), rfl, trivial⟩, H⟩
 rintro r' w' ⟨hA, H⟩
 obtain ⟨r17, rfl⟩ := regen _ hA; clear hA
 obtain ⟨w18, rfl⟩ := wld w'
 refine RL_p (xm (.bool b12)) ?_
 obtain ⟨b19, hmS, hm⟩ := bind_some hm
 refine RL_cut 4 (fun r' w' => Agr [(37, .bool b19), (3, pp b3)] r' ∧ S8_0 ok w w' b1 a0 b3 a1) ?_ ?_
 ·cases hbS : b12
  ·have hm := cond_f hbS hmS
   refine RQ (xf fo33_0) ?_
   refine RQ (xl 0 (ii a1.X0) sc3 (H.c 1)) ?_
   refine RQ (xL) ?_
   refine RL_p (xF (.bool (decide (a1.X0 < 0)))) ?_
   refine RL_nil ?_
   exact ⟨⟨congrArg Value.bool (Option.some.inj hm), rfl, trivial⟩, H⟩
  have hm := cond_t hbS hmS
  refine RO ?_
  refine RO ?_
  refine RO ?_
  refine RL_p (xT (.bool true)) ?_
  refine RL_nil ?_
  exact ⟨⟨congrArg Value.bool (Option.some.inj hm), rfl, trivial⟩, H⟩
 rintro r' w' ⟨hA, H⟩
 obtain ⟨r20, rfl⟩ := regen _ hA; clear hA
 obtain ⟨w21, rfl⟩ := wld w'
 refine RL_p (xm (.bool b19)) ?_
 obtain ⟨b22, hmS, hm⟩ := bind_some hm
 refine RL_cut 4 (fun r' w' => Agr [(42, .bool b22)] r' ∧ S8_0 ok w w' b1 a0 b3 a1) ?_ ?_
 ·cases hbS : b19
  ·have hm := cond_f hbS hmS
   refine RQ (xf fo33_1) ?_
   refine RQ (xl 1 (ii a1.Y0) sc3 (H.c 1)) ?_
   refine RQ (xL) ?_
   refine RL_p (xF (.bool (decide (a1.Y0 < 0)))) ?_
   refine RL_nil ?_
   exact ⟨⟨congrArg Value.bool (Option.some.inj hm), trivial⟩, H⟩
  have hm := cond_t hbS hmS
  refine RO ?_
  refine RO ?_
  refine RO ?_
  refine RL_p (xT (.bool true)) ?_
  refine RL_nil ?_
  exact ⟨⟨congrArg Value.bool (Option.some.inj hm), trivial⟩, H⟩
 rintro r' w' ⟨hA, H⟩
 obtain ⟨r23, rfl⟩ := regen _ hA; clear hA
 obtain ⟨w24, rfl⟩ := wld w'
 show RL _ _ _ _ _ _ _
 refine Wc (fun hb => ?_) (fun hb => ?_)
 ·have hm := cond_t hb hm
  refine Wr ?_
  refine RL_p (xa (ii 2)) ?_
  refine W_ret ?_
  obtain rfl := Option.some.inj hm
  exact ⟨[ii 2], (.tmp (by rfl) rfl), rfl, H.none_⟩
 have hm := cond_f hb hm
 refine W_skip ?_
 refine Wr ?_
 refine RL_p (xa (ii 0)) ?_
 refine W_ret ?_
 obtain rfl := Option.some.inj hm
 exact ⟨[ii 0], (.tmp (by rfl) rfl), rfl, H.none_⟩
end Go.Proofs.YtobkigllalbkiaaV.D

/- A plain Lean function that answers as the Go function does (none: not told), and the proof that a call answers so. Written by program. -/
set_option linter.unusedVariables false
set_option maxRecDepth 100000
set_option maxHeartbeats 4000000
namespace Go.Proofs.YtobkigllalbkiaaV.D
open Go.RowKit Go.Proofs.YtobkigllalbkiaaV
abbrev L24_0 (q0 : S_Box) : List Value := [ii q0.Low.X, ii q0.Low.Y, ii q0.Low.Z, ii q0.High.X, ii q0.High.Y, ii q0.High.Z]
abbrev L24_1 (q0 : (Ar3 S_Span)) : List Value := [ii q0.a0.Low, ii q0.a0.High, ii q0.a1.Low, ii q0.a1.High, ii q0.a2.Low, ii q0.a2.High]
def m24 (K : Nat) (a0 : S_Box) : Option (Int) :=
 ((m37 K a0).bind fun v4 => ((m38 K v4.a0.Low).bind fun v10 => ((bif (!v10) then some true else ((m38 K v4.a0.High).bind fun v14 => some (!v14))).bind fun b12 => ((bif b12 then some true else some (decide (v4.a0.High < v4.a0.Low))).bind fun b18 => (bif b18 then some 8 else ((m38 K v4.a1.Low).bind fun v25 => ((bif (!v25) then some true else ((m38 K v4.a1.High).bind fun v29 => some (!v29))).bind fun b27 => ((bif b27 then some true else some (decide (v4.a1.High < v4.a1.Low))).bind fun b33 => (bif b33 then some 8 else ((m38 K v4.a2.Low).bind fun v40 => ((bif (!v40) then some true else ((m38 K v4.a2.High).bind fun v44 => some (!v44))).bind fun b42 => ((bif b42 then some true else some (decide (v4.a2.High < v4.a2.Low))).bind fun b48 => (bif b48 then some 8 else some 0)))))))))))))
abbrev S24_0 (q0 : Okp) (q1 q2 : World) (q3 : Nat) (q4 : S_Box) (q5 : Nat) (q6 : (Ar3 S_Span)) : Prop := Sep q0 q1 q2 [.blk q3 50 (L24_0 q4), .blk q5 109 [ii q6.a0.Low, ii q6.a0.High]] []
abbrev S24_1 (q0 : Okp) (q1 q2 : World) (q3 : Nat) (q4 : (Ar3 S_Span)) : Prop := Sep q0 q1 q2 [.blk q3 109 [ii q4.a1.Low, ii q4.a1.High]] []
abbrev S24_2 (q0 : Okp) (q1 q2 : World) (q3 : Nat) (q4 : (Ar3 S_Span)) (q5 : Nat) : Prop := Sep q0 q1 q2 [.blk q3 109 [ii q4.a1.Low, ii q4.a1.High], .blk q5 109 [ii q4.a2.Low, ii q4.a2.High]] []
theorem c24 (ok : Okp) (K : Nat) (w : World) (a0 : S_Box)  (res : Int) (hm : m24 K a0 = some res) :
  Calls Tryd.prog 24 #[.agg (L24_0 a0).toArray] w (fun e w' => e = .returned (tup [ii res]) ∧ Sep ok w w' [] []) := by
 refine calls_W (args := [.agg (L24_0 a0).toArray]) Tryd.func24 rfl Tryd.ntmps24 Tryd.results24 rfl fun r hr => ?_
 obtain ⟨r1, rfl⟩ := regen (r := r) [(0, .agg (L24_0 a0).toArray)] ⟨hr 0 _ rfl, trivial⟩
 have H : Sep ok w w [] [] := Sep.start ok w
 unfold m24 at hm
 refine Wr ?_
 refine RL_cons (OB H (fun w2 b1 (H : Sep ok w w2 [.blk b1 50 (L24_0 a0)] []) => ?_))
 refine RL_p (xa (ii 0)) ?_
 refine W_seq ?_
 refine Wr ?_
 refine RL_p (xA 0 (L24_0 a0) ag50 (H.c 0)) ?_
 obtain ⟨v4, hv3, hm⟩ := bind_some hm
 refine RL_cons (OC (xc [.agg (L24_0 a0).toArray] (cf37 _ _)) (c37 okT K w2 a0  v4 hv3) ?_)
 rintro e w5 ⟨rfl, H2⟩
 have H : Sep ok w w5 [.blk b1 50 (L24_0 a0)] [] := H.below H2.base
 clear H2
 refine ⟨_, rfl, ?_⟩
 refine RL_p (xm (ii 0)) ?_
 refine W_block ?_
 refine W_unroll 40 ?_
 refine WU_succ ?_
 refine Wr ?_
 refine RL_p (xL) ?_
 refine W_seq ?_
 refine Wt ?_
 refine W_skip ?_
 refine W_seq ?_
 refine W_block ?_
 refine Wr ?_
 refine RL_p (xJ [ii v4.a0.Low, ii v4.a0.High] ar110 ag109) ?_
 refine RL_cons (OA ze109 H (fun w7 b6 (H : Sep ok w w7 [.blk b1 50 (L24_0 a0), .blk b6 109 [ii 0, ii 0]] []) => ?_))
 refine RL_cons (OS 1 0 [ii v4.a0.Low, ii v4.a0.High] sz109 H (fun w8 (H : S24_0 ok w w8 b1 a0 b6 v4) => ?_))
 refine Wr ?_
 refine RL_p (xf fo109_0) ?_
 refine RL_p (xl 0 (ii v4.a0.Low) sc3 (H.c 1)) ?_
 obtain ⟨v10, hv9, hm⟩ := bind_some hm
 refine RL_cons (OC (xc [ii v4.a0.Low] (cf38 _ _)) (c38 okT K w8 v4.a0.Low  v10 hv9) ?_)
 rintro e w11 ⟨rfl, H2⟩
 have H : S24_0 ok w w11 b1 a0 b6 v4 := H.below H2.base
 clear H2
 refine ⟨_, rfl, ?_⟩
 refine RL_p (x_not (by rfl)) ?_
 refine RL_p (xm (.bool (!v10))) ?_
 obtain ⟨b12, hmS, hm⟩ := bind_some hm
 refine RL_cut 5 (fun r' w' => Agr [(19, .bool b12), (4, pp b6), (6, .agg (L24_1 v4).toArray), (7, ii 0)] r' ∧ S24_0 ok w w' b1 a0 b6 v4) ?_ ?_
 ·cases hbS : (!v10)
  ·have hm := cond_f hbS hmS
   refine RQ (xf fo109_1) ?_
   refine RQ (xl 1 (ii v4.a0.High) sc3 (H.c 1)) ?_
   obtain ⟨v14, hv13, hm⟩ := bind_some hm
   refine RL_cons (O_call (by exact wn1 rfl rfl rfl rfl) (by rfl) (by rfl) (xc [ii v4.a0.High] (cf38 _ _)) (c38 okT K w11 v4.a0.High  v14 hv13) ?_)
   rintro e w15 ⟨rfl, H2⟩
   have H : S24_0 ok w w15 b1 a0 b6 v4 := H.below H2.base
   clear H2
   refine ⟨_, rfl, ?_⟩
   refine RQ (x_not (by rfl)) ?_
   refine RL_p (xF (.bool (!v14))) ?_
   refine RL_nil ?_
   exact ⟨⟨congrArg Value.bool (Option.some.inj hm), rfl, rfl, rfl, trivial⟩, H⟩
  have hm := cond_t hbS hmS
  refine RO ?_
  refine RO ?_
  refine RO ?_
  refine RO ?_
  refine RL_p (xT (.bool true)) ?_
  refine RL_nil ?_
  exact ⟨⟨congrArg Value.bool (Option.some.inj hm), rfl, rfl, rfl, trivial⟩, H⟩
 rintro r' w' ⟨hA, H⟩
 obtain ⟨r16, rfl⟩ := regen _ hA; clear hA
 obtain ⟨w17, rfl⟩ := wld w'
 refine RL_p (xm (.bool b12)) ?_
 obtain ⟨b18, hmS, hm⟩ := bind_some hm
 refine RL_cut 6 (fun r' w' => Agr [(26, .bool b18), (6, .agg (L24_1 v4).toArray), (7, ii 0)] r' ∧ S24_0 ok w w' b1 a0 b6 v4) ?_ ?_
 ·cases hbS : b12
  ·have hm := cond_f hbS hmS
   refine RQ (xf fo109_0) ?_
   refine RQ (xl 0 (ii v4.a0.Low) sc3 (H.c 1)) ?_
   refine RQ (xf fo109_1) ?_
   refine RQ (xl 1 (ii v4.a0.High) sc3 (H.c 1)) ?_
   refine RQ (xG) ?_
   refine RL_p (xF (.bool (decide (v4.a0.High < v4.a0.Low)))) ?_
   refine RL_nil ?_
   exact ⟨⟨congrArg Value.bool (Option.some.inj hm), rfl, rfl, trivial⟩, H⟩
  have hm := cond_t hbS hmS
  refine RO ?_
  refine RO ?_
  refine RO ?_
  refine RO ?_
  refine RO ?_
  refine RL_p (xT (.bool true)) ?_
  refine RL_nil ?_
  exact ⟨⟨congrArg Value.bool (Option.some.inj hm), rfl, rfl, trivial⟩, H⟩
 rintro r' w' ⟨hA, H⟩
 obtain ⟨r19, rfl⟩ := regen _ hA; clear hA
 obtain ⟨w20, rfl⟩ := wld w'
 show RL _ _ _ _ _ _ _
 refine Wc (fun hb => ?_) (fun hb => ?_)
 ·have hm := cond_t hb hm
  refine W_seq ?_
  have H : Sep ok w w20 [] [] := (H.takeL 0)
  refine W_region ?_
  refine RL_p (xa (ii 8)) ?_
  refine W_ret ?_
  obtain rfl := Option.some.inj hm
  exact ⟨[ii 8], (.tmp (by rfl) rfl), rfl, H.none_⟩
 have hm := cond_f hb hm
 refine W_skip ?_
 have H : Sep ok w w20 [] [] := (H.takeL 0)
 refine W_region ?_
 refine RL_p (xp 1) ?_
 refine RL_p (xm (ii 1)) ?_
 refine WU_succ ?_
 refine Wr ?_
 refine RL_p (xL) ?_
 refine W_seq ?_
 refine Wt ?_
 refine W_skip ?_
 refine W_seq ?_
 refine W_block ?_
 refine Wr ?_
 refine RL_p (xJ [ii v4.a1.Low, ii v4.a1.High] ar110 ag109) ?_
 refine RL_cons (OA ze109 H (fun w22 b21 (H : Sep ok w w22 [.blk b21 109 [ii 0, ii 0]] []) => ?_))
 refine RL_cons (OS 0 0 [ii v4.a1.Low, ii v4.a1.High] sz109 H (fun w23 (H : S24_1 ok w w23 b21 v4) => ?_))
 refine Wr ?_
 refine RL_p (xf fo109_0) ?_
 refine RL_p (xl 0 (ii v4.a1.Low) sc3 (H.c 0)) ?_
 obtain ⟨v25, hv24, hm⟩ := bind_some hm
 refine RL_cons (OC (xc [ii v4.a1.Low] (cf38 _ _)) (c38 okT K w23 v4.a1.Low  v25 hv24) ?_)
 rintro e w26 ⟨rfl, H2⟩
 have H : S24_1 ok w w26 b21 v4 := H.below H2.base
 clear H2
 refine ⟨_, rfl, ?_⟩
 refine RL_p (x_not (by rfl)) ?_
 refine RL_p (xm (.bool (!v25))) ?_
 obtain ⟨b27, hmS, hm⟩ := bind_some hm
 refine RL_cut 5 (fun r' w' => Agr [(19, .bool b27), (4, pp b21), (6, .agg (L24_1 v4).toArray), (7, ii 1)] r' ∧ S24_1 ok w w' b21 v4) ?_ ?_
 ·cases hbS : (!v25)
  ·have hm := cond_f hbS hmS
   refine RQ (xf fo109_1) ?_
   refine RQ (xl 1 (ii v4.a1.High) sc3 (H.c 0)) ?_
   obtain ⟨v29, hv28, hm⟩ := bind_some hm
   refine RL_cons (O_call (by exact wn1 rfl rfl rfl rfl) (by rfl) (by rfl) (xc [ii v4.a1.High] (cf38 _ _)) (c38 okT K w26 v4.a1.High  v29 hv28) ?_)
   rintro e w30 ⟨rfl, H2⟩
   have H : S24_1 ok w w30 b21 v4 := H.below H2.base
   clear H2
   refine ⟨_, rfl, ?_⟩
   refine RQ (x_not (by rfl)) ?_
   refine RL_p (xF (.bool (!v29))) ?_
   refine RL_nil ?_
   exact ⟨⟨congrArg Value.bool (Option.some.inj hm), rfl, rfl, rfl, trivial⟩, H⟩
  have hm := cond_t hbS hmS
  refine RO ?_
  refine RO ?_
  refine RO ?_
  refine RO ?_
  refine RL_p (xT (.bool true)) ?_
  refine RL_nil ?_
  exact ⟨⟨congrArg Value.bool (Option.some.inj hm), rfl, rfl, rfl, trivial⟩, H⟩
 rintro r' w' ⟨hA, H⟩
 obtain ⟨r31, rfl⟩ := regen _ hA; clear hA
 obtain ⟨w32, rfl⟩ := wld w'
 refine RL_p (xm (.bool b27)) ?_
 obtain ⟨b33, hmS, hm⟩ := bind_some hm
 refine RL_cut 6 (fun r' w' => Agr [(26, .bool b33), (6, .agg (L24_1 v4).toArray), (7, ii 1)] r' ∧ S24_1 ok w w' b21 v4) ?_ ?_
 ·cases hbS : b27
  ·have hm := cond_f hbS hmS
   refine RQ (xf fo109_0) ?_
   refine RQ (xl 0 (ii v4.a1.Low) sc3 (H.c 0)) ?_
   refine RQ (xf fo109_1) ?_
   refine RQ (xl 1 (ii v4.a1.High) sc3 (H.c 0)) ?_
   refine RQ (xG) ?_
   refine RL_p (xF (.bool (decide (v4.a1.High < v4.a1.Low)))) ?_
   refine RL_nil ?_
   exact ⟨⟨congrArg Value.bool (Option.some.inj hm), rfl, rfl, trivial⟩, H⟩
  have hm := cond_t hbS hmS
  refine RO ?_
  refine RO ?_
  refine RO ?_
  refine RO ?_
  refine RO ?_
  refine RL_p (xT (.bool true)) ?_
  refine RL_nil ?_
  exact ⟨⟨congrArg Value.bool (Option.some.inj hm), rfl, rfl, trivial⟩, H⟩
 rintro r' w' ⟨hA, H⟩
 obtain ⟨r34, rfl⟩ := regen _ hA; clear hA
 obtain ⟨w35, rfl⟩ := wld w'
 show RL _ _ _ _ _ _ _
 refine Wc (fun hb => ?_) (fun hb => ?_)
 ·have hm := cond_t hb hm
  refine Wr ?_
  refine RL_p (xa (ii 8)) ?_
  refine W_ret ?_
  obtain rfl := Option.some.inj hm
  exact ⟨[ii 8], (.tmp (by rfl) rfl), rfl, H.none_⟩
 have hm := cond_f hb hm
 refine W_skip ?_
 refine W_region ?_
 refine RL_p (xp 2) ?_
 refine RL_p (xm (ii 2)) ?_
 refine WU_succ ?_
 refine Wr ?_
 refine RL_p (xL) ?_
 refine W_seq ?_
 refine Wt ?_
 refine W_skip ?_
 refine W_seq ?_
 refine W_block ?_
 refine Wr ?_
 refine RL_p (xJ [ii v4.a2.Low, ii v4.a2.High] ar110 ag109) ?_
 refine RL_cons (OA ze109 H (fun w37 b36 (H : Sep ok w w37 [.blk b21 109 [ii v4.a1.Low, ii v4.a1.High], .blk b36 109 [ii 0, ii 0]] []) => ?_))
 refine RL_cons (OS 1 0 [ii v4.a2.Low, ii v4.a2.High] sz109 H (fun w38 (H : S24_2 ok w w38 b21 v4 b36) => ?_))
 refine Wr ?_
 refine RL_p (xf fo109_0) ?_
 refine RL_p (xl 0 (ii v4.a2.Low) sc3 (H.c 1)) ?_
 obtain ⟨v40, hv39, hm⟩ := bind_some hm
 refine RL_cons (OC (xc [ii v4.a2.Low] (cf38 _ _)) (c38 okT K w38 v4.a2.Low  v40 hv39) ?_)
 rintro e w41 ⟨rfl, H2⟩
 have H : S24_2 ok w w41 b21 v4 b36 := H.below H2.base
 clear H2
 refine ⟨_, rfl, ?_⟩
 refine RL_p (x_not (by rfl)) ?_
 refine RL_p (xm (.bool (!v40))) ?_
 obtain ⟨b42, hmS, hm⟩ := bind_some hm
 refine RL_cut 5 (fun r' w' => Agr [(19, .bool b42), (4, pp b36), (6, .agg (L24_1 v4).toArray), (7, ii 2)] r' ∧ S24_2 ok w w' b21 v4 b36) ?_ ?_
 ·cases hbS : (!v40)
  ·have hm := cond_f hbS hmS
   refine RQ (xf fo109_1) ?_
   refine RQ (xl 1 (ii v4.a2.High) sc3 (H.c 1)) ?_
   obtain ⟨v44, hv43, hm⟩ := bind_some hm
   refine RL_cons (O_call (by exact wn1 rfl rfl rfl rfl) (by rfl) (by rfl) (xc [ii v4.a2.High] (cf38 _ _)) (c38 okT K w41 v4.a2.High  v44 hv43) ?_)
   rintro e w45 ⟨rfl, H2⟩
   have H : S24_2 ok w w45 b21 v4 b36 := H.below H2.base
   clear H2
   refine ⟨_, rfl, ?_⟩
   refine RQ (x_not (by rfl)) ?_
   refine RL_p (xF (.bool (!v44))) ?_
   refine RL_nil ?_
   exact ⟨⟨congrArg Value.bool (Option.some.inj hm), rfl, rfl, rfl, trivial⟩, H⟩
  have hm := cond_t hbS hmS
  refine RO ?_
  refine RO ?_
  refine RO ?_
  refine RO ?_
  refine RL_p (xT (.bool true)) ?_
  refine RL_nil ?_
  exact ⟨⟨congrArg Value.bool (Option.some.inj hm), rfl, rfl, rfl, trivial⟩, H⟩
 rintro r' w' ⟨hA, H⟩
 obtain ⟨r46, rfl⟩ := regen _ hA; clear hA
 obtain ⟨w47, rfl⟩ := wld w'
 refine RL_p (xm (.bool b42)) ?_
 obtain ⟨b48, hmS, hm⟩ := bind_some hm
 refine RL_cut 6 (fun r' w' => Agr [(26, .bool b48), (6, .agg (L24_1 v4).toArray), (7, ii 2)] r' ∧ S24_2 ok w w' b21 v4 b36) ?_ ?_
 ·cases hbS : b42
  ·have hm := cond_f hbS hmS
   refine RQ (xf fo109_0) ?_
   refine RQ (xl 0 (ii v4.a2.Low) sc3 (H.c 1)) ?_
   refine RQ (xf fo109_1) ?_
   refine RQ (xl 1 (ii v4.a2.High) sc3 (H.c 1)) ?_
   refine RQ (xG) ?_
   refine RL_p (xF (.bool (decide (v4.a2.High < v4.a2.Low)))) ?_
   refine RL_nil ?_
   exact ⟨⟨congrArg Value.bool (Option.some.inj hm), rfl, rfl, trivial⟩, H⟩
  have hm := cond_t hbS hmS
  refine RO ?_
  refine RO ?_
  refine RO ?_
  refine RO ?_
  refine RO ?_
  refine RL_p (xT (.bool true)) ?_
  refine RL_nil ?_
  exact ⟨⟨congrArg Value.bool (Option.some.inj hm), rfl, rfl, trivial⟩, H⟩
 rintro r' w' ⟨hA, H⟩
 obtain ⟨r49, rfl⟩ := regen _ hA; clear hA
 obtain ⟨w50, rfl⟩ := wld w'
 show RL _ _ _ _ _ _ _
 refine Wc (fun hb => ?_) (fun hb => ?_)
 ·have hm := cond_t hb hm
  refine W_seq ?_
  have H : Sep ok w w50 [] [] := (H.takeL 0)
  refine W_region ?_
  refine RL_p (xa (ii 8)) ?_
  refine W_ret ?_
  obtain rfl := Option.some.inj hm
  exact ⟨[ii 8], (.tmp (by rfl) rfl), rfl, H.none_⟩
 have hm := cond_f hb hm
 refine W_skip ?_
 have H : Sep ok w w50 [] [] := (H.takeL 0)
 refine W_region ?_
 refine RL_p (xp 3) ?_
 refine RL_p (xm (ii 3)) ?_
 refine WU_succ ?_
 refine Wr ?_
 refine RL_p (xL) ?_
 refine W_seq ?_
 refine Wf ?_
 refine W_exit ?_
 refine Wr ?_
 refine RL_p (xa (ii 0)) ?_
 refine W_ret ?_
 obtain rfl := Option.some.inj hm
 exact ⟨[ii 0], (.tmp (by rfl) rfl), rfl, H.none_⟩
end Go.Proofs.YtobkigllalbkiaaV.D

/- A plain Lean function that answers as the Go function does (none: not told), and the proof that a call answers so. Written by program. -/
set_option linter.unusedVariables false
set_option maxRecDepth 100000
set_option maxHeartbeats 4000000
namespace Go.Proofs.YtobkigllalbkiaaV.D
open Go.RowKit Go.Proofs.YtobkigllalbkiaaV
abbrev L25_0 (q0 : S_Box) : List Value := [ii q0.Low.X, ii q0.Low.Y, ii q0.Low.Z, ii q0.High.X, ii q0.High.Y, ii q0.High.Z]
abbrev L25_1  : List Value := [ii 0, ii 0, ii 0, ii 0, ii 0, ii 0]
abbrev L25_2 (q0 : (Ar3 S_Span)) : List Value := [ii q0.a0.Low, ii q0.a0.High, ii q0.a1.Low, ii q0.a1.High, ii q0.a2.Low, ii q0.a2.High]
def m25 (K : Nat) (a0 : S_Box) (a1 : S_Box) : Option (Bool) :=
 ((m37 K a0).bind fun v6 => ((m37 K a1).bind fun v9 => ((bif (decide (v6.a0.Low < v9.a0.Low)) then some true else some (decide (v9.a0.High < v6.a0.High))).bind fun b92 => (bif b92 then some false else ((bif (decide (v6.a1.Low < v9.a1.Low)) then some true else some (decide (v9.a1.High < v6.a1.High))).bind fun b96 => (bif b96 then some false else ((bif (decide (v6.a2.Low < v9.a2.Low)) then some true else some (decide (v9.a2.High < v6.a2.High))).bind fun b100 => (bif b100 then some false else some true))))))))
abbrev S25_0 (q0 : Okp) (q1 q2 : World) (q3 : Nat) (q4 : S_Box) (q5 : Nat) (q6 : S_Box) (q7 q8 : Nat) : Prop := Sep q0 q1 q2 [.blk q3 50 (L25_0 q4), .blk q5 50 (L25_0 q6), .blk q7 110 L25_1, .blk q8 110 L25_1] []
abbrev S25_1 (q0 : Okp) (q1 q2 : World) (q3 : Nat) (q4 : S_Box) (q5 : Nat) (q6 : S_Box) (q7 : Nat) : Prop := Sep q0 q1 q2 [.blk q3 50 (L25_0 q4), .blk q5 50 (L25_0 q6), .blk q7 110 L25_1, .hole] []
abbrev S25_2 (q0 : Okp) (q1 q2 : World) (q3 : Nat) (q4 : S_Box) (q5 : Nat) (q6 : S_Box) (q7 : Nat) : Prop := Sep q0 q1 q2 [.blk q3 50 (L25_0 q4), .blk q5 50 (L25_0 q6), .hole, .blk q7 110 L25_1] []
abbrev S25_3 (q0 : Okp) (q1 q2 : World) (q3 : Nat) (q4 : S_Box) (q5 : Nat) (q6 : S_Box) : Prop := Sep q0 q1 q2 [.blk q3 50 (L25_0 q4), .blk q5 50 (L25_0 q6), .hole, .hole] []
abbrev S25_4 (q0 : Okp) (q1 q2 : World) (q3 : Nat) (q4 : S_Box) (q5 : Nat) (q6 : S_Box) (q7 : Nat) : Prop := Sep q0 q1 q2 [.blk q3 50 (L25_0 q4), .blk q5 50 (L25_0 q6), .hole, .hole, .blk q7 110 L25_1] []
abbrev S25_5 (q0 : Okp) (q1 q2 : World) (q3 : Nat) (q4 : S_Box) (q5 : Nat) (q6 : S_Box) (q7 q8 : Nat) : Prop := Sep q0 q1 q2 [.blk q3 50 (L25_0 q4), .blk q5 50 (L25_0 q6), .hole, .blk q7 110 L25_1, .blk q8 110 L25_1] []
abbrev S25_6 (q0 : Okp) (q1 q2 : World) (q3 : Nat) (q4 : S_Box) (q5 : Nat) (q6 : S_Box) (q7 q8 : Nat) : Prop := Sep q0 q1 q2 [.blk q3 50 (L25_0 q4), .blk q5 50 (L25_0 q6), .blk q7 110 L25_1, .hole, .blk q8 110 L25_1] []
abbrev S25_7 (q0 : Okp) (q1 q2 : World) (q3 : Nat) (q4 : S_Box) (q5 : Nat) (q6 : S_Box) (q7 : Nat) (q8 : (Ar3 S_Span)) (q9 : Nat) (q10 : (Ar3 S_Span)) : Prop := Sep q0 q1 q2 [.blk q3 50 (L25_0 q4), .blk q5 50 (L25_0 q6), .blk q7 110 (L25_2 q8), .blk q9 110 (L25_2 q10)] []
theorem c25 (ok : Okp) (K : Nat) (w : World) (a0 : S_Box) (a1 : S_Box)  (res : Bool) (hm : m25 K a0 a1 = some res) :
  Calls Tryd.prog 25 #[.agg (L25_0 a0).toArray, .agg (L25_0 a1).toArray] w (fun e w' => e = .returned (tup [.bool res]) ∧ Sep ok w w' [] []) := by
 refine calls_W (args := [.agg (L25_0 a0).toArray, .agg (L25_0 a1).toArray]) Tryd.func25 rfl Tryd.ntmps25 Tryd.results25 rfl fun r hr => ?_
 obtain ⟨r1, rfl⟩ := regen (r := r) [(0, .agg (L25_0 a0).toArray), (1, .agg (L25_0 a1).toArray)] ⟨hr 0 _ rfl, hr 1 _ rfl, trivial⟩
 have H : Sep ok w w [] [] := Sep.start ok w
 unfold m25 at hm
 refine Wr ?_
 refine RL_cons (OB H (fun w2 b1 (H : Sep ok w w2 [.blk b1 50 (L25_0 a0)] []) => ?_))
 refine RL_cons (OB H (fun w4 b3 (H : Sep ok w w4 [.blk b1 50 (L25_0 a0), .blk b3 50 (L25_0 a1)] []) => ?_))
 refine RL_p (xa (.bool false)) ?_
 refine W_seq ?_
 obtain ⟨v6, hv5, hm⟩ := bind_some hm
 obtain ⟨v9, hv8, hm⟩ := bind_some hm
 refine W_drawT (.take 0 (.take 2 (.all (.br 1 (.all (.br 3 (.all (.br 4 (.all (.br 5 (.all (.br 6 (.lin [.tail 7]) (.stop))) (.stop))) (.br 5 (.all (.br 4 (.all (.br 6 (.lin [.tail 7]) (.stop))) (.stop))) (.stop)))) (.br 4 (.all (.br 3 (.all (.br 5 (.all (.br 6 (.lin [.tail 7]) (.stop))) (.stop))) (.br 5 (.all (.br 3 (.all (.br 6 (.lin [.tail 7]) (.stop))) (.stop))) (.stop)))) (.br 5 (.all (.br 3 (.all (.br 4 (.all (.br 6 (.lin [.tail 7]) (.stop))) (.stop))) (.br 4 (.all (.br 3 (.all (.br 6 (.lin [.tail 7]) (.stop))) (.stop))) (.stop)))) (.stop))))) (.br 4 (.all (.br 1 (.all (.br 3 (.all (.br 5 (.all (.br 6 (.lin [.tail 7]) (.stop))) (.stop))) (.br 5 (.all (.br 3 (.all (.br 6 (.lin [.tail 7]) (.stop))) (.stop))) (.stop)))) (.br 5 (.all (.br 1 (.all (.br 3 (.all (.br 6 (.lin [.tail 7]) (.stop))) (.stop))) (.stop))) (.stop)))) (.br 5 (.all (.br 1 (.all (.br 3 (.all (.br 4 (.all (.br 6 (.lin [.tail 7]) (.stop))) (.stop))) (.br 4 (.all (.br 3 (.all (.br 6 (.lin [.tail 7]) (.stop))) (.stop))) (.stop)))) (.br 4 (.all (.br 1 (.all (.br 3 (.all (.br 6 (.lin [.tail 7]) (.stop))) (.stop))) (.stop))) (.stop)))) (.stop))))))) (fun wS => Sep ok w wS [.blk b1 50 (L25_0 a0), .blk b3 50 (L25_0 a1)] []) [7] [] mixed0 (by kernel_rfl) (by kernel_rfl) (by kernel_rfl) (by kernel_rfl) (by exact H.drew) ?_
 obtain ⟨w16, hW⟩ : ∃ W : World, W = { w4 with drawn := w4.drawn + 1 } := ⟨_, rfl⟩
 rw [← hW]
 have H : Sep ok w w16 [.blk b1 50 (L25_0 a0), .blk b3 50 (L25_0 a1)] [] := by rw [hW]; exact H.drew
 clear hW
 refine TT (a := fun H => xA 0 (L25_0 a0) ag50 (H.c 0)) (b := ?_)
 refine TT (a := fun H => xA 0 (L25_0 a1) ag50 (H.c 1)) (b := ?_)
 refine PRT_meet (fun r' w' => ∃ (b11 : Nat), ∃ (b13 : Nat), Agr [(5, pp b11), (6, pp b13), (11, .agg (L25_2 v9).toArray)] r' ∧ Sep ok w w' [.blk b1 50 (L25_0 a0), .blk b3 50 (L25_0 a1), .blk b11 110 (L25_2 v6), .blk b13 110 L25_1] []) (.lin [.tail 7]) ?_ ?_
 ·intro hJ1_3_4_5_6
  refine PRT_meet (fun r' w' => ∃ (b11 : Nat), ∃ (b13 : Nat), Agr [(5, pp b11), (6, pp b13), (9, .agg (L25_2 v6).toArray), (11, .agg (L25_2 v9).toArray)] r' ∧ S25_0 ok w w' b1 a0 b3 a1 b11 b13) (.all (.br 6 (.lin [.tail 7]) (.stop))) ?_ ?_
  ·intro hJ1_3_4_5
   refine PRT_meet (fun r' w' => ∃ (b11 : Nat), Agr [(5, pp b11), (9, .agg (L25_2 v6).toArray), (11, .agg (L25_2 v9).toArray)] r' ∧ S25_1 ok w w' b1 a0 b3 a1 b11) (.all (.br 5 (.all (.br 6 (.lin [.tail 7]) (.stop))) (.stop))) ?_ ?_
   ·intro hJ1_3_4
    refine PRT_meet (fun r' w' => ∃ (b13 : Nat), Agr [(6, pp b13), (9, .agg (L25_2 v6).toArray), (11, .agg (L25_2 v9).toArray)] r' ∧ S25_2 ok w w' b1 a0 b3 a1 b13) (.all (.br 4 (.all (.br 6 (.lin [.tail 7]) (.stop))) (.stop))) ?_ ?_
    ·intro hJ1_3_5
     refine PRT_meet (fun r' w' => ∃ (b11 : Nat), ∃ (b13 : Nat), Agr [(5, pp b11), (6, pp b13), (9, .agg (L25_2 v6).toArray), (10, .agg (L25_0 a1).toArray)] r' ∧ S25_0 ok w w' b1 a0 b3 a1 b11 b13) (.all (.br 3 (.all (.br 6 (.lin [.tail 7]) (.stop))) (.stop))) ?_ ?_
     ·intro hJ1_4_5
      refine PRT_meet (fun r' w' => Agr [(9, .agg (L25_2 v6).toArray), (11, .agg (L25_2 v9).toArray)] r' ∧ S25_3 ok w w' b1 a0 b3 a1) (.all (.br 4 (.all (.br 5 (.all (.br 6 (.lin [.tail 7]) (.stop))) (.stop))) (.br 5 (.all (.br 4 (.all (.br 6 (.lin [.tail 7]) (.stop))) (.stop))) (.stop)))) ?_ ?_
      ·intro hJ1_3
       refine PRT_meet (fun r' w' => ∃ (b11 : Nat), Agr [(5, pp b11), (9, .agg (L25_2 v6).toArray), (10, .agg (L25_0 a1).toArray)] r' ∧ S25_1 ok w w' b1 a0 b3 a1 b11) (.all (.br 3 (.all (.br 5 (.all (.br 6 (.lin [.tail 7]) (.stop))) (.stop))) (.br 5 (.all (.br 3 (.all (.br 6 (.lin [.tail 7]) (.stop))) (.stop))) (.stop)))) ?_ ?_
       ·intro hJ1_4
        refine PRT_meet (fun r' w' => ∃ (b13 : Nat), Agr [(6, pp b13), (9, .agg (L25_2 v6).toArray), (10, .agg (L25_0 a1).toArray)] r' ∧ S25_2 ok w w' b1 a0 b3 a1 b13) (.all (.br 3 (.all (.br 4 (.all (.br 6 (.lin [.tail 7]) (.stop))) (.stop))) (.br 4 (.all (.br 3 (.all (.br 6 (.lin [.tail 7]) (.stop))) (.stop))) (.stop)))) ?_ ?_
        ·intro hJ1_5
         refine PRT_meet (fun r' w' => ∃ (b11 : Nat), ∃ (b13 : Nat), Agr [(5, pp b11), (6, pp b13), (8, .agg (L25_0 a0).toArray), (10, .agg (L25_0 a1).toArray)] r' ∧ S25_0 ok w w' b1 a0 b3 a1 b11 b13) (.all (.br 1 (.all (.br 3 (.all (.br 6 (.lin [.tail 7]) (.stop))) (.stop))) (.stop))) ?_ ?_
         ·intro hJ4_5
          refine PRT_meet (fun r' w' => Agr [(9, .agg (L25_2 v6).toArray), (10, .agg (L25_0 a1).toArray)] r' ∧ S25_3 ok w w' b1 a0 b3 a1) (.all (.br 3 (.all (.br 4 (.all (.br 5 (.all (.br 6 (.lin [.tail 7]) (.stop))) (.stop))) (.br 5 (.all (.br 4 (.all (.br 6 (.lin [.tail 7]) (.stop))) (.stop))) (.stop)))) (.br 4 (.all (.br 3 (.all (.br 5 (.all (.br 6 (.lin [.tail 7]) (.stop))) (.stop))) (.br 5 (.all (.br 3 (.all (.br 6 (.lin [.tail 7]) (.stop))) (.stop))) (.stop)))) (.br 5 (.all (.br 3 (.all (.br 4 (.all (.br 6 (.lin [.tail 7]) (.stop))) (.stop))) (.br 4 (.all (.br 3 (.all (.br 6 (.lin [.tail 7]) (.stop))) (.stop))) (.stop)))) (.stop))))) ?_ ?_
          ·intro hJ1
           refine PRT_meet (fun r' w' => ∃ (b11 : Nat), Agr [(5, pp b11), (8, .agg (L25_0 a0).toArray), (10, .agg (L25_0 a1).toArray)] r' ∧ S25_1 ok w w' b1 a0 b3 a1 b11) (.all (.br 1 (.all (.br 3 (.all (.br 5 (.all (.br 6 (.lin [.tail 7]) (.stop))) (.stop))) (.br 5 (.all (.br 3 (.all (.br 6 (.lin [.tail 7]) (.stop))) (.stop))) (.stop)))) (.br 5 (.all (.br 1 (.all (.br 3 (.all (.br 6 (.lin [.tail 7]) (.stop))) (.stop))) (.stop))) (.stop)))) ?_ ?_
           ·intro hJ4
            refine PRT_meet (fun r' w' => ∃ (b13 : Nat), Agr [(6, pp b13), (8, .agg (L25_0 a0).toArray), (10, .agg (L25_0 a1).toArray)] r' ∧ S25_2 ok w w' b1 a0 b3 a1 b13) (.all (.br 1 (.all (.br 3 (.all (.br 4 (.all (.br 6 (.lin [.tail 7]) (.stop))) (.stop))) (.br 4 (.all (.br 3 (.all (.br 6 (.lin [.tail 7]) (.stop))) (.stop))) (.stop)))) (.br 4 (.all (.br 1 (.all (.br 3 (.all (.br 6 (.lin [.tail 7]) (.stop))) (.stop))) (.stop))) (.stop)))) ?_ ?_
            ·intro hJ5
             have H : S25_3 ok w w16 b1 a0 b3 a1 := ((H).nilHole).nilHole
             refine PRT_all ?_
             refine PB ?_ ?_
             ·show OpR _ _ _ _ _ _ _
              refine OC (xc [.agg (L25_0 a0).toArray] (cf37 _ _)) (c37 okT K w16 a0  v6 hv5) ?_
              rintro e w7 ⟨rfl, H2⟩
              have H : S25_3 ok w w7 b1 a0 b3 a1 := H.below H2.base
              clear H2
              refine ⟨_, rfl, (Sep.takeL H 2), ?_⟩
              show PRT _ _ _ _ _ _ _ _
              exact hJ1 _ _ ⟨⟨rfl, rfl, trivial⟩, H⟩
             refine PB ?_ ?_
             ·show OpR _ _ _ _ _ _ _
              refine OA ze110 H (fun w12 b11 (H : S25_4 ok w w12 b1 a0 b3 a1 b11) => ⟨(Sep.takeL H 2), ?_⟩)
              exact hJ4 _ _ ⟨b11, ⟨rfl, rfl, rfl, trivial⟩, (H).pickL [0, 1, 4, 3] (by decide)⟩
             refine PB ?_ ?_
             ·show OpR _ _ _ _ _ _ _
              refine OA ze110 H (fun w14 b13 (H : S25_4 ok w w14 b1 a0 b3 a1 b13) => ⟨(Sep.takeL H 2), ?_⟩)
              exact hJ5 _ _ ⟨b13, ⟨rfl, rfl, rfl, trivial⟩, (H).pickL [0, 1, 2, 4] (by decide)⟩
             exact PRT_stop
            show ∀ r w, _ → _
            rintro r' w' ⟨b13, hA, H⟩
            obtain ⟨r66, rfl⟩ := regen _ hA; clear hA
            obtain ⟨w67, rfl⟩ := wld w'
            refine PRT_all ?_
            refine PB ?_ ?_
            ·show OpR _ _ _ _ _ _ _
             refine OC (xc [.agg (L25_0 a0).toArray] (cf37 _ _)) (c37 okT K w67 a0  v6 hv5) ?_
             rintro e w7 ⟨rfl, H2⟩
             have H : S25_2 ok w w7 b1 a0 b3 a1 b13 := H.below H2.base
             clear H2
             refine ⟨_, rfl, (Sep.takeL H 2), ?_⟩
             show PRT _ _ _ _ _ _ _ _
             exact hJ1_5 _ _ ⟨b13, ⟨rfl, rfl, rfl, trivial⟩, H⟩
            refine PB ?_ ?_
            ·show OpR _ _ _ _ _ _ _
             refine OA ze110 H (fun w12 b11 (H : S25_5 ok w w12 b1 a0 b3 a1 b13 b11) => ⟨(Sep.takeL H 2), ?_⟩)
             exact hJ4_5 _ _ ⟨b11, b13, ⟨rfl, rfl, rfl, rfl, trivial⟩, (H).pickL [0, 1, 4, 3] (by decide)⟩
            exact PRT_stop
           show ∀ r w, _ → _
           rintro r' w' ⟨b11, hA, H⟩
           obtain ⟨r68, rfl⟩ := regen _ hA; clear hA
           obtain ⟨w69, rfl⟩ := wld w'
           refine PRT_all ?_
           refine PB ?_ ?_
           ·show OpR _ _ _ _ _ _ _
            refine OC (xc [.agg (L25_0 a0).toArray] (cf37 _ _)) (c37 okT K w69 a0  v6 hv5) ?_
            rintro e w7 ⟨rfl, H2⟩
            have H : S25_1 ok w w7 b1 a0 b3 a1 b11 := H.below H2.base
            clear H2
            refine ⟨_, rfl, (Sep.takeL H 2), ?_⟩
            show PRT _ _ _ _ _ _ _ _
            exact hJ1_4 _ _ ⟨b11, ⟨rfl, rfl, rfl, trivial⟩, H⟩
           refine PB ?_ ?_
           ·show OpR _ _ _ _ _ _ _
            refine OA ze110 H (fun w14 b13 (H : S25_6 ok w w14 b1 a0 b3 a1 b11 b13) => ⟨(Sep.takeL H 2), ?_⟩)
            exact hJ4_5 _ _ ⟨b11, b13, ⟨rfl, rfl, rfl, rfl, trivial⟩, (H).pickL [0, 1, 2, 4] (by decide)⟩
           exact PRT_stop
          show ∀ r w, _ → _
          rintro r' w' ⟨hA, H⟩
          obtain ⟨r70, rfl⟩ := regen _ hA; clear hA
          obtain ⟨w71, rfl⟩ := wld w'
          refine PRT_all ?_
          refine PB ?_ ?_
          ·show OpR _ _ _ _ _ _ _
           refine OC (xc [.agg (L25_0 a1).toArray] (cf37 _ _)) (c37 okT K w71 a1  v9 hv8) ?_
           rintro e w10 ⟨rfl, H2⟩
           have H : S25_3 ok w w10 b1 a0 b3 a1 := H.below H2.base
           clear H2
           refine ⟨_, rfl, (Sep.takeL H 2), ?_⟩
           show PRT _ _ _ _ _ _ _ _
           exact hJ1_3 _ _ ⟨⟨rfl, rfl, trivial⟩, H⟩
          refine PB ?_ ?_
          ·show OpR _ _ _ _ _ _ _
           refine OA ze110 H (fun w12 b11 (H : S25_4 ok w w12 b1 a0 b3 a1 b11) => ⟨(Sep.takeL H 2), ?_⟩)
           exact hJ1_4 _ _ ⟨b11, ⟨rfl, rfl, rfl, trivial⟩, (H).pickL [0, 1, 4, 3] (by decide)⟩
          refine PB ?_ ?_
          ·show OpR _ _ _ _ _ _ _
           refine OA ze110 H (fun w14 b13 (H : S25_4 ok w w14 b1 a0 b3 a1 b13) => ⟨(Sep.takeL H 2), ?_⟩)
           exact hJ1_5 _ _ ⟨b13, ⟨rfl, rfl, rfl, trivial⟩, (H).pickL [0, 1, 2, 4] (by decide)⟩
          exact PRT_stop
         show ∀ r w, _ → _
         rintro r' w' ⟨b11, b13, hA, H⟩
         obtain ⟨r72, rfl⟩ := regen _ hA; clear hA
         obtain ⟨w73, rfl⟩ := wld w'
         refine PRT_all ?_
         refine PB ?_ ?_
         ·show OpR _ _ _ _ _ _ _
          refine OC (xc [.agg (L25_0 a0).toArray] (cf37 _ _)) (c37 okT K w73 a0  v6 hv5) ?_
          rintro e w7 ⟨rfl, H2⟩
          have H : S25_0 ok w w7 b1 a0 b3 a1 b11 b13 := H.below H2.base
          clear H2
          refine ⟨_, rfl, (Sep.takeL H 2), ?_⟩
          show PRT _ _ _ _ _ _ _ _
          exact hJ1_4_5 _ _ ⟨b11, b13, ⟨rfl, rfl, rfl, rfl, trivial⟩, H⟩
         exact PRT_stop
        show ∀ r w, _ → _
        rintro r' w' ⟨b13, hA, H⟩
        obtain ⟨r74, rfl⟩ := regen _ hA; clear hA
        obtain ⟨w75, rfl⟩ := wld w'
        refine PRT_all ?_
        refine PB ?_ ?_
        ·show OpR _ _ _ _ _ _ _
         refine OC (xc [.agg (L25_0 a1).toArray] (cf37 _ _)) (c37 okT K w75 a1  v9 hv8) ?_
         rintro e w10 ⟨rfl, H2⟩
         have H : S25_2 ok w w10 b1 a0 b3 a1 b13 := H.below H2.base
         clear H2
         refine ⟨_, rfl, (Sep.takeL H 2), ?_⟩
         show PRT _ _ _ _ _ _ _ _
         exact hJ1_3_5 _ _ ⟨b13, ⟨rfl, rfl, rfl, trivial⟩, H⟩
        refine PB ?_ ?_
        ·show OpR _ _ _ _ _ _ _
         refine OA ze110 H (fun w12 b11 (H : S25_5 ok w w12 b1 a0 b3 a1 b13 b11) => ⟨(Sep.takeL H 2), ?_⟩)
         exact hJ1_4_5 _ _ ⟨b11, b13, ⟨rfl, rfl, rfl, rfl, trivial⟩, (H).pickL [0, 1, 4, 3] (by decide)⟩
        exact PRT_stop
       show ∀ r w, _ → _
       rintro r' w' ⟨b11, hA, H⟩
       obtain ⟨r76, rfl⟩ := regen _ hA; clear hA
       obtain ⟨w77, rfl⟩ := wld w'
       refine PRT_all ?_
       refine PB ?_ ?_
       ·show OpR _ _ _ _ _ _ _
        refine OC (xc [.agg (L25_0 a1).toArray] (cf37 _ _)) (c37 okT K w77 a1  v9 hv8) ?_
        rintro e w10 ⟨rfl, H2⟩
        have H : S25_1 ok w w10 b1 a0 b3 a1 b11 := H.below H2.base
        clear H2
        refine ⟨_, rfl, (Sep.takeL H 2), ?_⟩
        show PRT _ _ _ _ _ _ _ _
        exact hJ1_3_4 _ _ ⟨b11, ⟨rfl, rfl, rfl, trivial⟩, H⟩
       refine PB ?_ ?_
       ·show OpR _ _ _ _ _ _ _
        refine OA ze110 H (fun w14 b13 (H : S25_6 ok w w14 b1 a0 b3 a1 b11 b13) => ⟨(Sep.takeL H 2), ?_⟩)
        exact hJ1_4_5 _ _ ⟨b11, b13, ⟨rfl, rfl, rfl, rfl, trivial⟩, (H).pickL [0, 1, 2, 4] (by decide)⟩
       exact PRT_stop
      show ∀ r w, _ → _
      rintro r' w' ⟨hA, H⟩
      obtain ⟨r78, rfl⟩ := regen _ hA; clear hA
      obtain ⟨w79, rfl⟩ := wld w'
      refine PRT_all ?_
      refine PB ?_ ?_
      ·show OpR _ _ _ _ _ _ _
       refine OA ze110 H (fun w12 b11 (H : S25_4 ok w w12 b1 a0 b3 a1 b11) => ⟨(Sep.takeL H 2), ?_⟩)
       exact hJ1_3_4 _ _ ⟨b11, ⟨rfl, rfl, rfl, trivial⟩, (H).pickL [0, 1, 4, 3] (by decide)⟩
      refine PB ?_ ?_
      ·show OpR _ _ _ _ _ _ _
       refine OA ze110 H (fun w14 b13 (H : S25_4 ok w w14 b1 a0 b3 a1 b13) => ⟨(Sep.takeL H 2), ?_⟩)
       exact hJ1_3_5 _ _ ⟨b13, ⟨rfl, rfl, rfl, trivial⟩, (H).pickL [0, 1, 2, 4] (by decide)⟩
      exact PRT_stop
     show ∀ r w, _ → _
     rintro r' w' ⟨b11, b13, hA, H⟩
     obtain ⟨r80, rfl⟩ := regen _ hA; clear hA
     obtain ⟨w81, rfl⟩ := wld w'
     refine PRT_all ?_
     refine PB ?_ ?_
     ·show OpR _ _ _ _ _ _ _
      refine OC (xc [.agg (L25_0 a1).toArray] (cf37 _ _)) (c37 okT K w81 a1  v9 hv8) ?_
      rintro e w10 ⟨rfl, H2⟩
      have H : S25_0 ok w w10 b1 a0 b3 a1 b11 b13 := H.below H2.base
      clear H2
      refine ⟨_, rfl, (Sep.takeL H 2), ?_⟩
      show PRT _ _ _ _ _ _ _ _
      exact hJ1_3_4_5 _ _ ⟨b11, b13, ⟨rfl, rfl, rfl, rfl, trivial⟩, H⟩
     exact PRT_stop
    show ∀ r w, _ → _
    rintro r' w' ⟨b13, hA, H⟩
    obtain ⟨r82, rfl⟩ := regen _ hA; clear hA
    obtain ⟨w83, rfl⟩ := wld w'
    refine PRT_all ?_
    refine PB ?_ ?_
    ·show OpR _ _ _ _ _ _ _
     refine OA ze110 H (fun w12 b11 (H : S25_5 ok w w12 b1 a0 b3 a1 b13 b11) => ⟨(Sep.takeL H 2), ?_⟩)
     exact hJ1_3_4_5 _ _ ⟨b11, b13, ⟨rfl, rfl, rfl, rfl, trivial⟩, (H).pickL [0, 1, 4, 3] (by decide)⟩
    exact PRT_stop
   show ∀ r w, _ → _
   rintro r' w' ⟨b11, hA, H⟩
   obtain ⟨r84, rfl⟩ := regen _ hA; clear hA
   obtain ⟨w85, rfl⟩ := wld w'
   refine PRT_all ?_
   refine PB ?_ ?_
   ·show OpR _ _ _ _ _ _ _
    refine OA ze110 H (fun w14 b13 (H : S25_6 ok w w14 b1 a0 b3 a1 b11 b13) => ⟨(Sep.takeL H 2), ?_⟩)
    exact hJ1_3_4_5 _ _ ⟨b11, b13, ⟨rfl, rfl, rfl, rfl, trivial⟩, (H).pickL [0, 1, 2, 4] (by decide)⟩
   exact PRT_stop
  show ∀ r w, _ → _
  rintro r' w' ⟨b11, b13, hA, H⟩
  obtain ⟨r86, rfl⟩ := regen _ hA; clear hA
  obtain ⟨w87, rfl⟩ := wld w'
  refine PRT_all ?_
  refine PB ?_ ?_
  ·show OpR _ _ _ _ _ _ _
   refine OS 2 0 (L25_2 v6) sz110 H (fun w15 (H : Sep ok w w15 [.blk b1 50 (L25_0 a0), .blk b3 50 (L25_0 a1), .blk b11 110 (L25_2 v6), .blk b13 110 L25_1] []) => ⟨(Sep.takeL H 2), ?_⟩)
   exact hJ1_3_4_5_6 _ _ ⟨b11, b13, ⟨rfl, rfl, rfl, trivial⟩, H⟩
  exact PRT_stop
 show ∀ r w, _ → _
 rintro r' w' ⟨b11, b13, hA, H⟩
 obtain ⟨r88, rfl⟩ := regen _ hA; clear hA
 obtain ⟨w89, rfl⟩ := wld w'
 refine PRT_lin ?_
 refine PL (a := OS 3 0 (L25_2 v9) sz110 H (fun w90 (H : S25_7 ok w w90 b1 a0 b3 a1 b11 v6 b13 v9) => ?_))
 refine PR_nil ?_
 refine W_seq ?_
 refine Wr ?_
 refine RL_p (xm (ii 0)) ?_
 refine W_block ?_
 refine W_unroll 40 ?_
 refine WU_succ ?_
 refine Wr ?_
 refine RL_p (xL) ?_
 refine W_seq ?_
 refine Wt ?_
 refine W_skip ?_
 refine W_seq ?_
 refine W_block ?_
 refine Wr ?_
 refine RL_p (xm (ii 0)) ?_
 refine RL_p (xa (ii 0)) ?_
 refine W_seq ?_
 refine W_draw [.free 0, .free 1, .free 2, .take 3, .free 4, .free 5, .free 6, .take 7, .free 8, .free 9, .free 10, .free 11, .free 12, .take 13, .free 14, .free 15, .free 16, .take 17, .free 18, .free 19] (fun wS => S25_7 ok w wS b1 a0 b3 a1 b11 v6 b13 v9) [] [0, 1, 2, 4, 5, 6, 8, 9, 10, 11, 12, 14, 15, 16, 18, 19] mixed0 (by kernel_rfl) (by kernel_rfl) (by kernel_rfl) (by rfl) (by exact H.drew) ?_
 obtain ⟨w91, hW⟩ : ∃ W : World, W = { w90 with drawn := w90.drawn + 1 } := ⟨_, rfl⟩
 rw [← hW]
 have H : S25_7 ok w w91 b1 a0 b3 a1 b11 v6 b13 v9 := by rw [hW]; exact H.drew
 clear hW
 refine PF (a := xm (ii 0)) (b := ?_)
 refine PF (a := xI ar110 sz109) (b := ?_)
 refine PF (a := xf fo109_0) (b := ?_)
 refine PT' (a := fun H => xl 0 (ii v6.a0.Low) sc3 (H.c 2)) (b := ?_)
 refine PF (a := xm (ii 0)) (b := ?_)
 refine PF (a := xI ar110 sz109) (b := ?_)
 refine PF (a := xf fo109_0) (b := ?_)
 refine PT' (a := fun H => xl 0 (ii v9.a0.Low) sc3 (H.c 3)) (b := ?_)
 refine PF (a := xL) (b := ?_)
 refine PF (a := xm (.bool (decide (v6.a0.Low < v9.a0.Low)))) (b := ?_)
 obtain ⟨b92, hmS, hm⟩ := bind_some hm
 refine PR_cut 10 (fun r' w' => Agr [(34, .bool b92), (5, pp b11), (6, pp b13), (12, ii 0)] r' ∧ S25_7 ok w w' b1 a0 b3 a1 b11 v6 b13 v9) ?_ ?_
 ·cases hbS : (decide (v6.a0.Low < v9.a0.Low))
  ·have hm := cond_f hbS hmS
   refine PF1 (a := xm (ii 0)) (b := ?_)
   refine PF1 (a := xI ar110 sz109) (b := ?_)
   refine PF1 (a := xf fo109_1) (b := ?_)
   refine PT1 (a := fun H => xl 1 (ii v6.a0.High) sc3 (H.c 2)) (b := ?_)
   refine PF1 (a := xm (ii 0)) (b := ?_)
   refine PF1 (a := xI ar110 sz109) (b := ?_)
   refine PF1 (a := xf fo109_1) (b := ?_)
   refine PT1 (a := fun H => xl 1 (ii v9.a0.High) sc3 (H.c 3)) (b := ?_)
   refine PF1 (a := xG) (b := ?_)
   refine PF (a := xF (.bool (decide (v9.a0.High < v6.a0.High)))) (b := ?_)
   refine PR_nil ?_
   exact ⟨⟨congrArg Value.bool (Option.some.inj hm), rfl, rfl, rfl, trivial⟩, H⟩
  have hm := cond_t hbS hmS
  refine PG ?_
  refine PG ?_
  refine PG ?_
  refine PO ?_
  refine PG ?_
  refine PG ?_
  refine PG ?_
  refine PO ?_
  refine PG ?_
  refine PF (a := xT (.bool true)) (b := ?_)
  refine PR_nil ?_
  exact ⟨⟨congrArg Value.bool (Option.some.inj hm), rfl, rfl, rfl, trivial⟩, H⟩
 rintro r' w' ⟨hA, H⟩
 obtain ⟨r93, rfl⟩ := regen _ hA; clear hA
 obtain ⟨w94, rfl⟩ := wld w'
 show PR _ _ _ _ _ _ _ _
 refine PR_nil ?_
 refine Wc (fun hb => ?_) (fun hb => ?_)
 ·have hm := cond_t hb hm
  refine W_seq ?_
  have H : Sep ok w w94 [] [] := (H.takeL 0)
  refine W_region ?_
  refine RL_p (xa (.bool false)) ?_
  refine W_ret ?_
  obtain rfl := Option.some.inj hm
  exact ⟨[.bool false], (.tmp (by rfl) rfl), rfl, H.none_⟩
 have hm := cond_f hb hm
 refine W_skip ?_
 refine W_region ?_
 refine RL_p (xp 1) ?_
 refine RL_p (xm (ii 1)) ?_
 refine WU_succ ?_
 refine Wr ?_
 refine RL_p (xL) ?_
 refine W_seq ?_
 refine Wt ?_
 refine W_skip ?_
 refine W_seq ?_
 refine W_block ?_
 refine Wr ?_
 refine RL_p (xm (ii 1)) ?_
 refine RL_p (xa (ii 1)) ?_
 refine W_seq ?_
 refine W_draw [.free 0, .free 1, .free 2, .take 3, .free 4, .free 5, .free 6, .take 7, .free 8, .free 9, .free 10, .free 11, .free 12, .take 13, .free 14, .free 15, .free 16, .take 17, .free 18, .free 19] (fun wS => S25_7 ok w wS b1 a0 b3 a1 b11 v6 b13 v9) [] [0, 1, 2, 4, 5, 6, 8, 9, 10, 11, 12, 14, 15, 16, 18, 19] mixed0 (by kernel_rfl) (by kernel_rfl) (by kernel_rfl) (by rfl) (by exact H.drew) ?_
 obtain ⟨w95, hW⟩ : ∃ W : World, W = { w94 with drawn := w94.drawn + 1 } := ⟨_, rfl⟩
 rw [← hW]
 have H : S25_7 ok w w95 b1 a0 b3 a1 b11 v6 b13 v9 := by rw [hW]; exact H.drew
 clear hW
 refine PF (a := xm (ii 1)) (b := ?_)
 refine PF (a := xI ar110 sz109) (b := ?_)
 refine PF (a := xf fo109_0) (b := ?_)
 refine PT' (a := fun H => xl 2 (ii v6.a1.Low) sc3 (H.c 2)) (b := ?_)
 refine PF (a := xm (ii 1)) (b := ?_)
 refine PF (a := xI ar110 sz109) (b := ?_)
 refine PF (a := xf fo109_0) (b := ?_)
 refine PT' (a := fun H => xl 2 (ii v9.a1.Low) sc3 (H.c 3)) (b := ?_)
 refine PF (a := xL) (b := ?_)
 refine PF (a := xm (.bool (decide (v6.a1.Low < v9.a1.Low)))) (b := ?_)
 obtain ⟨b96, hmS, hm⟩ := bind_some hm
 refine PR_cut 10 (fun r' w' => Agr [(34, .bool b96), (5, pp b11), (6, pp b13), (12, ii 1)] r' ∧ S25_7 ok w w' b1 a0 b3 a1 b11 v6 b13 v9) ?_ ?_
 ·cases hbS : (decide (v6.a1.Low < v9.a1.Low))
  ·have hm := cond_f hbS hmS
   refine PF1 (a := xm (ii 1)) (b := ?_)
   refine PF1 (a := xI ar110 sz109) (b := ?_)
   refine PF1 (a := xf fo109_1) (b := ?_)
   refine PT1 (a := fun H => xl 3 (ii v6.a1.High) sc3 (H.c 2)) (b := ?_)
   refine PF1 (a := xm (ii 1)) (b := ?_)
   refine PF1 (a := xI ar110 sz109) (b := ?_)
   refine PF1 (a := xf fo109_1) (b := ?_)
   refine PT1 (a := fun H => xl 3 (ii v9.a1.High) sc3 (H.c 3)) (b := ?_)
   refine PF1 (a := xG) (b := ?_)
   refine PF (a := xF (.bool (decide (v9.a1.High < v6.a1.High)))) (b := ?_)
   refine PR_nil ?_
   exact ⟨⟨congrArg Value.bool (Option.some.inj hm), rfl, rfl, rfl, trivial⟩, H⟩
  have hm := cond_t hbS hmS
  refine PG ?_
  refine PG ?_
  refine PG ?_
  refine PO ?_
  refine PG ?_
  refine PG ?_
  refine PG ?_
  refine PO ?_
  refine PG ?_
  refine PF (a := xT (.bool true)) (b := ?_)
  refine PR_nil ?_
  exact ⟨⟨congrArg Value.bool (Option.some.inj hm), rfl, rfl, rfl, trivial⟩, H⟩
 rintro r' w' ⟨hA, H⟩
 obtain ⟨r97, rfl⟩ := regen _ hA; clear hA
 obtain ⟨w98, rfl⟩ := wld w'
 show PR _ _ _ _ _ _ _ _
 refine PR_nil ?_
 refine Wc (fun hb => ?_) (fun hb => ?_)
 ·have hm := cond_t hb hm
  refine W_seq ?_
  have H : Sep ok w w98 [] [] := (H.takeL 0)
  refine W_region ?_
  refine RL_p (xa (.bool false)) ?_
  refine W_ret ?_
  obtain rfl := Option.some.inj hm
  exact ⟨[.bool false], (.tmp (by rfl) rfl), rfl, H.none_⟩
 have hm := cond_f hb hm
 refine W_skip ?_
 refine W_region ?_
 refine RL_p (xp 2) ?_
 refine RL_p (xm (ii 2)) ?_
 refine WU_succ ?_
 refine Wr ?_
 refine RL_p (xL) ?_
 refine W_seq ?_
 refine Wt ?_
 refine W_skip ?_
 refine W_seq ?_
 refine W_block ?_
 refine Wr ?_
 refine RL_p (xm (ii 2)) ?_
 refine RL_p (xa (ii 2)) ?_
 refine W_seq ?_
 refine W_draw [.free 0, .free 1, .free 2, .take 3, .free 4, .free 5, .free 6, .take 7, .free 8, .free 9, .free 10, .free 11, .free 12, .take 13, .free 14, .free 15, .free 16, .take 17, .free 18, .free 19] (fun wS => S25_7 ok w wS b1 a0 b3 a1 b11 v6 b13 v9) [] [0, 1, 2, 4, 5, 6, 8, 9, 10, 11, 12, 14, 15, 16, 18, 19] mixed0 (by kernel_rfl) (by kernel_rfl) (by kernel_rfl) (by rfl) (by exact H.drew) ?_
 obtain ⟨w99, hW⟩ : ∃ W : World, W = { w98 with drawn := w98.drawn + 1 } := ⟨_, rfl⟩
 rw [← hW]
 have H : S25_7 ok w w99 b1 a0 b3 a1 b11 v6 b13 v9 := by rw [hW]; exact H.drew
 clear hW
 refine PF (a := xm (ii 2)) (b := ?_)
 refine PF (a := xI ar110 sz109) (b := ?_)
 refine PF (a := xf fo109_0) (b := ?_)
 refine PT' (a := fun H => xl 4 (ii v6.a2.Low) sc3 (H.c 2)) (b := ?_)
 refine PF (a := xm (ii 2)) (b := ?_)
 refine PF (a := xI ar110 sz109) (b := ?_)
 refine PF (a := xf fo109_0) (b := ?_)
 refine PT' (a := fun H => xl 4 (ii v9.a2.Low) sc3 (H.c 3)) (b := ?_)
 refine PF (a := xL) (b := ?_)
 refine PF (a := xm (.bool (decide (v6.a2.Low < v9.a2.Low)))) (b := ?_)
 obtain ⟨b100, hmS, hm⟩ := bind_some hm
 refine PR_cut 10 (fun r' w' => Agr [(34, .bool b100), (5, pp b11), (6, pp b13), (12, ii 2)] r' ∧ S25_7 ok w w' b1 a0 b3 a1 b11 v6 b13 v9) ?_ ?_
 ·cases hbS : (decide (v6.a2.Low < v9.a2.Low))
  ·have hm := cond_f hbS hmS
   refine PF1 (a := xm (ii 2)) (b := ?_)
   refine PF1 (a := xI ar110 sz109) (b := ?_)
   refine PF1 (a := xf fo109_1) (b := ?_)
   refine PT1 (a := fun H => xl 5 (ii v6.a2.High) sc3 (H.c 2)) (b := ?_)
   refine PF1 (a := xm (ii 2)) (b := ?_)
   refine PF1 (a := xI ar110 sz109) (b := ?_)
   refine PF1 (a := xf fo109_1) (b := ?_)
   refine PT1 (a := fun H => xl 5 (ii v9.a2.High) sc3 (H.c 3)) (b := ?_)
   refine PF1 (a := xG) (b := ?_)
   refine PF (a := xF (.bool (decide (v9.a2.High < v6.a2.High)))) (b := ?_)
   refine PR_nil ?_
   exact ⟨⟨congrArg Value.bool (Option.some.inj hm), rfl, rfl, rfl, trivial⟩, H⟩
  have hm := cond_t hbS hmS
  refine PG ?_
  refine PG ?_
  refine PG ?_
  refine PO ?_
  refine PG ?_
  refine PG ?_
  refine PG ?_
  refine PO ?_
  refine PG ?_
  refine PF (a := xT (.bool true)) (b := ?_)
  refine PR_nil ?_
  exact ⟨⟨congrArg Value.bool (Option.some.inj hm), rfl, rfl, rfl, trivial⟩, H⟩
 rintro r' w' ⟨hA, H⟩
 obtain ⟨r101, rfl⟩ := regen _ hA; clear hA
 obtain ⟨w102, rfl⟩ := wld w'
 show PR _ _ _ _ _ _ _ _
 refine PR_nil ?_
 refine Wc (fun hb => ?_) (fun hb => ?_)
 ·have hm := cond_t hb hm
  refine W_seq ?_
  have H : Sep ok w w102 [] [] := (H.takeL 0)
  refine W_region ?_
  refine RL_p (xa (.bool false)) ?_
  refine W_ret ?_
  obtain rfl := Option.some.inj hm
  exact ⟨[.bool false], (.tmp (by rfl) rfl), rfl, H.none_⟩
 have hm := cond_f hb hm
 refine W_skip ?_
 refine W_region ?_
 refine RL_p (xp 3) ?_
 refine RL_p (xm (ii 3)) ?_
 refine WU_succ ?_
 refine Wr ?_
 refine RL_p (xL) ?_
 refine W_seq ?_
 refine Wf ?_
 refine W_exit ?_
 refine W_seq ?_
 have H : Sep ok w w102 [] [] := (H.takeL 0)
 refine W_region ?_
 refine RL_p (xa (.bool true)) ?_
 refine W_ret ?_
 obtain rfl := Option.some.inj hm
 exact ⟨[.bool true], (.tmp (by rfl) rfl), rfl, H.none_⟩
end Go.Proofs.YtobkigllalbkiaaV.D

/- A plain Lean function that answers as the Go function does (none: not told), and the proof that a call answers so. Written by program. -/
set_option linter.unusedVariables false
set_option maxRecDepth 100000
set_option maxHeartbeats 4000000
namespace Go.Proofs.YtobkigllalbkiaaV.D
open Go.RowKit Go.Proofs.YtobkigllalbkiaaV
def m58 (K : Nat) (a0 : S_Span) : Option (Int) :=
 ((bif (decide (a0.Low < (-1099511627776))) then some true else some (decide (1099511627776 < a0.High))).bind fun b3 => ((bif b3 then some true else some (decide (a0.High < a0.Low))).bind fun b6 => (bif b6 then some 8 else some 0)))
theorem c58 (ok : Okp) (K : Nat) (w : World) (a0 : S_Span)  (res : Int) (hm : m58 K a0 = some res) :
  Calls Tryd.prog 58 #[.agg #[ii a0.Low, ii a0.High]] w (fun e w' => e = .returned (tup [ii res]) ∧ Sep ok w w' [] []) := by
 refine calls_W (args := [.agg #[ii a0.Low, ii a0.High]]) Tryd.func58 rfl Tryd.ntmps58 Tryd.results58 rfl fun r hr => ?_
 obtain ⟨r1, rfl⟩ := regen (r := r) [(0, .agg #[ii a0.Low, ii a0.High])] ⟨hr 0 _ rfl, trivial⟩
 have H : Sep ok w w [] [] := Sep.start ok w
 unfold m58 at hm
 refine Wr ?_
 refine RL_cons (OB H (fun w2 b1 (H : Sep ok w w2 [.blk b1 109 [ii a0.Low, ii a0.High]] []) => ?_))
 refine RL_p (xa (ii 0)) ?_
 refine W_seq ?_
 refine Wr ?_
 refine RL_p (xf fo109_0) ?_
 refine RL_p (xl 0 (ii a0.Low) sc3 (H.c 0)) ?_
 refine RL_p (xL) ?_
 refine RL_p (xm (.bool (decide (a0.Low < (-1099511627776))))) ?_
 obtain ⟨b3, hmS, hm⟩ := bind_some hm
 refine RL_cut 4 (fun r' w' => Agr [(10, .bool b3), (1, pp b1)] r' ∧ Sep ok w w' [.blk b1 109 [ii a0.Low, ii a0.High]] []) ?_ ?_
 ·cases hbS : (decide (a0.Low < (-1099511627776)))
  ·have hm := cond_f hbS hmS
   refine RQ (xf fo109_1) ?_
   refine RQ (xl 1 (ii a0.High) sc3 (H.c 0)) ?_
   refine RQ (xG) ?_
   refine RL_p (xF (.bool (decide (1099511627776 < a0.High)))) ?_
   refine RL_nil ?_
   exact ⟨⟨congrArg Value.bool (Option.some.inj hm), rfl, trivial⟩, H⟩
  have hm := cond_t hbS hmS
  refine RO ?_
  refine RO ?_
  refine RO ?_
  refine RL_p (xT (.bool true)) ?_
  refine RL_nil ?_
  exact ⟨⟨congrArg Value.bool (Option.some.inj hm), rfl, trivial⟩, H⟩
 rintro r' w' ⟨hA, H⟩
 obtain ⟨r4, rfl⟩ := regen _ hA; clear hA
 obtain ⟨w5, rfl⟩ := wld w'
 refine RL_p (xm (.bool b3)) ?_
 obtain ⟨b6, hmS, hm⟩ := bind_some hm
 refine RL_cut 6 (fun r' w' => Agr [(17, .bool b6)] r' ∧ Sep ok w w' [.blk b1 109 [ii a0.Low, ii a0.High]] []) ?_ ?_
 ·cases hbS : b3
  ·have hm := cond_f hbS hmS
   refine RQ (xf fo109_0) ?_
   refine RQ (xl 0 (ii a0.Low) sc3 (H.c 0)) ?_
   refine RQ (xf fo109_1) ?_
   refine RQ (xl 1 (ii a0.High) sc3 (H.c 0)) ?_
   refine RQ (xG) ?_
   refine RL_p (xF (.bool (decide (a0.High < a0.Low)))) ?_
   refine RL_nil ?_
   exact ⟨⟨congrArg Value.bool (Option.some.inj hm), trivial⟩, H⟩
  have hm := cond_t hbS hmS
  refine RO ?_
  refine RO ?_
  refine RO ?_
  refine RO ?_
  refine RO ?_
  refine RL_p (xT (.bool true)) ?_
  refine RL_nil ?_
  exact ⟨⟨congrArg Value.bool (Option.some.inj hm), trivial⟩, H⟩
 rintro r' w' ⟨hA, H⟩
 obtain ⟨r7, rfl⟩ := regen _ hA; clear hA
 obtain ⟨w8, rfl⟩ := wld w'
 show RL _ _ _ _ _ _ _
 refine Wc (fun hb => ?_) (fun hb => ?_)
 ·have hm := cond_t hb hm
  refine Wr ?_
  refine RL_p (xa (ii 8)) ?_
  refine W_ret ?_
  obtain rfl := Option.some.inj hm
  exact ⟨[ii 8], (.tmp (by rfl) rfl), rfl, H.none_⟩
 have hm := cond_f hb hm
 refine W_skip ?_
 refine Wr ?_
 refine RL_p (xa (ii 0)) ?_
 refine W_ret ?_
 obtain rfl := Option.some.inj hm
 exact ⟨[ii 0], (.tmp (by rfl) rfl), rfl, H.none_⟩
end Go.Proofs.YtobkigllalbkiaaV.D

/- A plain Lean function that answers as the Go function does (none: not told), and the proof that a call answers so. Written by program. -/
set_option linter.unusedVariables false
set_option maxRecDepth 100000
set_option maxHeartbeats 4000000
namespace Go.Proofs.YtobkigllalbkiaaV.D
open Go.RowKit Go.Proofs.YtobkigllalbkiaaV
def m59 (K : Nat) (a0 : Int) (a1 : Int) : Option (S_Span × Int) :=
 ((m58 K (⟨a0, a1⟩ : S_Span)).bind fun v7 => (bif (v7 != 0) then some ((⟨0, 0⟩ : S_Span), 20) else some ((⟨a0, a1⟩ : S_Span), 0)))
abbrev S59_0 (q0 : Okp) (q1 q2 : World) (q3 q4 : Nat) (q5 q6 : Int) : Prop := Sep q0 q1 q2 [.blk q3 109 [ii 0, ii 0], .blk q4 109 [ii q5, ii q6]] []
theorem c59 (ok : Okp) (K : Nat) (w : World) (a0 : Int) (a1 : Int)  (res : S_Span × Int) (hm : m59 K a0 a1 = some res) :
  Calls Tryd.prog 59 #[ii a0, ii a1] w (fun e w' => e = .returned (tup [.agg #[ii res.1.Low, ii res.1.High], ii res.2]) ∧ Sep ok w w' [] []) := by
 refine calls_W (args := [ii a0, ii a1]) Tryd.func59 rfl Tryd.ntmps59 Tryd.results59 rfl fun r hr => ?_
 obtain ⟨r1, rfl⟩ := regen (r := r) [(0, ii a0), (1, ii a1)] ⟨hr 0 _ rfl, hr 1 _ rfl, trivial⟩
 have H : Sep ok w w [] [] := Sep.start ok w
 unfold m59 at hm
 refine Wr ?_
 refine RL_cons (OA ze109 H (fun w2 b1 (H : Sep ok w w2 [.blk b1 109 [ii 0, ii 0]] []) => ?_))
 refine RL_p (xa (ii 0)) ?_
 refine Wr ?_
 refine RL_p (xm (ii a0)) ?_
 refine RL_p (xm (ii a1)) ?_
 refine RL_p (x_build (vs := [(0, ii a0), (1, ii a1)]) (cs := [ii a0, ii a1]) (by rfl) (by kernel_rfl)) ?_
 refine RL_cons (OA ze109 H (fun w4 b3 (H : Sep ok w w4 [.blk b1 109 [ii 0, ii 0], .blk b3 109 [ii 0, ii 0]] []) => ?_))
 refine RL_cons (OS 1 0 [ii a0, ii a1] sz109 H (fun w5 (H : S59_0 ok w w5 b1 b3 a0 a1) => ?_))
 refine W_seq ?_
 refine Wr ?_
 refine RL_p (xA 0 [ii a0, ii a1] ag109 (H.c 1)) ?_
 obtain ⟨v7, hv6, hm⟩ := bind_some hm
 refine RL_cons (OC (xc [.agg #[ii a0, ii a1]] (cf58 _ _)) (c58 okT K w5 (⟨a0, a1⟩ : S_Span)  v7 hv6) ?_)
 rintro e w8 ⟨rfl, H2⟩
 have H : S59_0 ok w w8 b1 b3 a0 a1 := H.below H2.base
 clear H2
 refine ⟨_, rfl, ?_⟩
 refine RL_p (xN) ?_
 refine Wc (fun hb => ?_) (fun hb => ?_)
 ·have hm := cond_t hb hm
  refine Wr ?_
  refine RL_p (x_build (vs := []) (cs := [ii 0, ii 0]) (by rfl) (by kernel_rfl)) ?_
  refine RL_cons (OS 0 0 [ii 0, ii 0] sz109 H (fun w9 (H : S59_0 ok w w9 b1 b3 a0 a1) => ?_))
  refine RL_p (xa (ii 20)) ?_
  refine W_ret ?_
  obtain rfl := Option.some.inj hm
  exact ⟨[.agg #[ii 0, ii 0], ii 20], (.cellA (by rfl) ag109 (H.c 0) (by rfl) (.tmp (by rfl) rfl)), rfl, H.none_⟩
 have hm := cond_f hb hm
 refine W_skip ?_
 refine Wr ?_
 refine RL_p (xA 0 [ii a0, ii a1] ag109 (H.c 1)) ?_
 refine RL_cons (OS 0 0 [ii a0, ii a1] sz109 H (fun w10 (H : Sep ok w w10 [.blk b1 109 [ii a0, ii a1], .blk b3 109 [ii a0, ii a1]] []) => ?_))
 refine RL_p (xa (ii 0)) ?_
 refine W_ret ?_
 obtain rfl := Option.some.inj hm
 exact ⟨[.agg #[ii a0, ii a1], ii 0], (.cellA (by rfl) ag109 (H.c 0) (by rfl) (.tmp (by rfl) rfl)), rfl, H.none_⟩
end Go.Proofs.YtobkigllalbkiaaV.D

/- A plain Lean function that answers as the Go function does (none: not told), and the proof that a call answers so. Written by program. -/
set_option linter.unusedVariables false
set_option maxRecDepth 100000
set_option maxHeartbeats 4000000
namespace Go.Proofs.YtobkigllalbkiaaV.D
open Go.RowKit Go.Proofs.YtobkigllalbkiaaV
def m39_j1 (K : Nat)  (y7_1 : Int) (y8_1 : Int) : Option (S_Span × Int) :=
 ((m59 K y7_1 y8_1).bind fun v19 => some (v19.1, v19.2))
def m39 (K : Nat) (a0 : S_Span) (a1 : Int) : Option (S_Span × Int) :=
 ((m58 K a0).bind fun v6 => (bif (v6 != 0) then some ((⟨0, 0⟩ : S_Span), v6) else ((bif (decide (a1 < (-1048576))) then some true else some (decide (1048576 < a1))).bind fun b9 => (bif b9 then some ((⟨0, 0⟩ : S_Span), 2) else (ck (a1 * a0.Low) fun x14 => (ck (a1 * a0.High) fun x15 => (bif (decide (a1 < 0)) then (m39_j1 K x15 x14) else (m39_j1 K x14 x15))))))))
abbrev S39_0 (q0 : Okp) (q1 q2 : World) (q3 : Nat) (q4 : S_Span) (q5 : Nat) : Prop := Sep q0 q1 q2 [.blk q3 109 [ii q4.Low, ii q4.High], .blk q5 109 [ii 0, ii 0]] []
theorem c39 (ok : Okp) (K : Nat) (w : World) (a0 : S_Span) (a1 : Int)  (res : S_Span × Int) (hm : m39 K a0 a1 = some res) :
  Calls Tryd.prog 39 #[.agg #[ii a0.Low, ii a0.High], ii a1] w (fun e w' => e = .returned (tup [.agg #[ii res.1.Low, ii res.1.High], ii res.2]) ∧ Sep ok w w' [] []) := by
 refine calls_W (args := [.agg #[ii a0.Low, ii a0.High], ii a1]) Tryd.func39 rfl Tryd.ntmps39 Tryd.results39 rfl fun r hr => ?_
 obtain ⟨r1, rfl⟩ := regen (r := r) [(0, .agg #[ii a0.Low, ii a0.High]), (1, ii a1)] ⟨hr 0 _ rfl, hr 1 _ rfl, trivial⟩
 have H : Sep ok w w [] [] := Sep.start ok w
 unfold m39 at hm
 refine Wr ?_
 refine RL_cons (OB H (fun w2 b1 (H : Sep ok w w2 [.blk b1 109 [ii a0.Low, ii a0.High]] []) => ?_))
 refine RL_cons (OA ze109 H (fun w4 b3 (H : S39_0 ok w w4 b1 a0 b3) => ?_))
 refine RL_p (xa (ii 0)) ?_
 refine W_seq ?_
 refine Wr ?_
 refine RL_p (xA 0 [ii a0.Low, ii a0.High] ag109 (H.c 0)) ?_
 obtain ⟨v6, hv5, hm⟩ := bind_some hm
 refine RL_cons (OC (xc [.agg #[ii a0.Low, ii a0.High]] (cf58 _ _)) (c58 okT K w4 a0  v6 hv5) ?_)
 rintro e w7 ⟨rfl, H2⟩
 have H : S39_0 ok w w7 b1 a0 b3 := H.below H2.base
 clear H2
 refine ⟨_, rfl, ?_⟩
 refine RL_p (xa (ii v6)) ?_
 refine Wr ?_
 refine RL_p (xm (ii v6)) ?_
 refine RL_p (xN) ?_
 refine Wc (fun hb => ?_) (fun hb => ?_)
 ·have hm := cond_t hb hm
  refine Wr ?_
  refine RL_p (x_build (vs := []) (cs := [ii 0, ii 0]) (by rfl) (by kernel_rfl)) ?_
  refine RL_p (xm (ii v6)) ?_
  refine RL_cons (OS 1 0 [ii 0, ii 0] sz109 H (fun w8 (H : S39_0 ok w w8 b1 a0 b3) => ?_))
  refine RL_p (xa (ii v6)) ?_
  refine W_ret ?_
  obtain rfl := Option.some.inj hm
  exact ⟨[.agg #[ii 0, ii 0], ii v6], (.cellA (by rfl) ag109 (H.c 1) (by rfl) (.tmp (by rfl) rfl)), rfl, H.none_⟩
 have hm := cond_f hb hm
 refine W_skip ?_
 refine W_seq ?_
 refine Wr ?_
 refine RL_p (xm (ii a1)) ?_
 refine RL_p (xL) ?_
 refine RL_p (xm (.bool (decide (a1 < (-1048576))))) ?_
 obtain ⟨b9, hmS, hm⟩ := bind_some hm
 refine RL_cut 3 (fun r' w' => Agr [(20, .bool b9), (1, ii a1), (2, pp b1), (4, pp b3)] r' ∧ S39_0 ok w w' b1 a0 b3) ?_ ?_
 ·cases hbS : (decide (a1 < (-1048576)))
  ·have hm := cond_f hbS hmS
   refine RQ (xm (ii a1)) ?_
   refine RQ (xG) ?_
   refine RL_p (xF (.bool (decide (1048576 < a1)))) ?_
   refine RL_nil ?_
   exact ⟨⟨congrArg Value.bool (Option.some.inj hm), rfl, rfl, rfl, trivial⟩, H⟩
  have hm := cond_t hbS hmS
  refine RO ?_
  refine RO ?_
  refine RL_p (xT (.bool true)) ?_
  refine RL_nil ?_
  exact ⟨⟨congrArg Value.bool (Option.some.inj hm), rfl, rfl, rfl, trivial⟩, H⟩
 rintro r' w' ⟨hA, H⟩
 obtain ⟨r10, rfl⟩ := regen _ hA; clear hA
 obtain ⟨w11, rfl⟩ := wld w'
 show RL _ _ _ _ _ _ _
 refine Wc (fun hb => ?_) (fun hb => ?_)
 ·have hm := cond_t hb hm
  refine Wr ?_
  refine RL_p (x_build (vs := []) (cs := [ii 0, ii 0]) (by rfl) (by kernel_rfl)) ?_
  refine RL_cons (OS 1 0 [ii 0, ii 0] sz109 H (fun w12 (H : S39_0 ok w w12 b1 a0 b3) => ?_))
  refine RL_p (xa (ii 2)) ?_
  refine W_ret ?_
  obtain rfl := Option.some.inj hm
  exact ⟨[.agg #[ii 0, ii 0], ii 2], (.cellA (by rfl) ag109 (H.c 1) (by rfl) (.tmp (by rfl) rfl)), rfl, H.none_⟩
 have hm := cond_f hb hm
 refine W_skip ?_
 refine W_seq ?_
 refine W_draw [.free 0, .free 1, .take 2, .free 3, .free 4, .free 5, .take 6, .free 7, .free 8, .free 9] (fun wS => S39_0 ok w wS b1 a0 b3) [] [0, 1, 3, 4, 5, 7, 8, 9] mixed0 (by kernel_rfl) (by kernel_rfl) (by kernel_rfl) (by rfl) (by exact H.drew) ?_
 obtain ⟨w13, hW⟩ : ∃ W : World, W = { w11 with drawn := w11.drawn + 1 } := ⟨_, rfl⟩
 rw [← hW]
 have H : S39_0 ok w w13 b1 a0 b3 := by rw [hW]; exact H.drew
 clear hW
 refine PF (a := xm (ii a1)) (b := ?_)
 refine PF (a := xf fo109_0) (b := ?_)
 refine PT' (a := fun H => xl 0 (ii a0.Low) sc3 (H.c 0)) (b := ?_)
 obtain ⟨x14, ex14, qx14, ux14, hm⟩ := ck_some hm
 refine PF (a := xX ux14) (b := ?_)
 refine PF (a := xm (ii a1)) (b := ?_)
 refine PF (a := xf fo109_1) (b := ?_)
 refine PT' (a := fun H => xl 1 (ii a0.High) sc3 (H.c 0)) (b := ?_)
 obtain ⟨x15, ex15, qx15, ux15, hm⟩ := ck_some hm
 refine PF (a := xX ux15) (b := ?_)
 refine PF (a := xa (ii x14)) (b := ?_)
 refine PF (a := xa (ii x15)) (b := ?_)
 refine PR_nil ?_
 refine W_join (fun r' w' => ∃ (y7_1 : Int), ∃ (y8_1 : Int), m39_j1 K y7_1 y8_1 = some res ∧ Agr [(4, pp b3), (7, ii y7_1), (8, ii y8_1)] r' ∧ S39_0 ok w w' b1 a0 b3) ?_ ?_
 ·show W _ _ _ _ _ _
  refine Wr ?_
  refine RL_p (xm (ii a1)) ?_
  refine RL_p (xL) ?_
  refine Wc (fun hb => ?_) (fun hb => ?_)
  ·have hm := cond_t hb hm
   refine W_region ?_
   refine RL_p (xm (ii x15)) ?_
   refine RL_p (xm (ii x14)) ?_
   refine RL_p (xa (ii x15)) ?_
   refine RL_p (xa (ii x14)) ?_
   refine RL_nil ?_
   exact ⟨x15, x14, hm, ⟨rfl, rfl, rfl, trivial⟩, H⟩
  have hm := cond_f hb hm
  refine W_skip ?_
  exact ⟨x14, x15, hm, ⟨rfl, rfl, rfl, trivial⟩, H⟩
 rintro r' w' ⟨y7_1, y8_1, hm, hA, H⟩
 obtain ⟨r16, rfl⟩ := regen _ hA; clear hA
 obtain ⟨w17, rfl⟩ := wld w'
 unfold m39_j1 at hm
 refine Wr ?_
 refine RL_p (xm (ii y7_1)) ?_
 refine RL_p (xm (ii y8_1)) ?_
 obtain ⟨v19, hv18, hm⟩ := bind_some hm
 refine RL_cons (OC (xc [ii y7_1, ii y8_1] (cf59 _ _)) (c59 okT K w17 y7_1 y8_1  v19 hv18) ?_)
 rintro e w20 ⟨rfl, H2⟩
 have H : S39_0 ok w w20 b1 a0 b3 := H.below H2.base
 clear H2
 refine ⟨_, rfl, ?_⟩
 refine RL_p (xe (.agg #[ii v19.1.Low, ii v19.1.High])) ?_
 refine RL_p (xe (ii v19.2)) ?_
 refine RL_cons (OS 1 0 [ii v19.1.Low, ii v19.1.High] sz109 H (fun w21 (H : Sep ok w w21 [.blk b1 109 [ii a0.Low, ii a0.High], .blk b3 109 [ii v19.1.Low, ii v19.1.High]] []) => ?_))
 refine RL_p (xa (ii v19.2)) ?_
 refine W_ret ?_
 obtain rfl := Option.some.inj hm
 exact ⟨[.agg #[ii v19.1.Low, ii v19.1.High], ii v19.2], (.cellA (by rfl) ag109 (H.c 1) (by rfl) (.tmp (by rfl) rfl)), rfl, H.none_⟩
end Go.Proofs.YtobkigllalbkiaaV.D

/- A plain Lean function that answers as the Go function does (none: not told), and the proof that a call answers so. Written by program. -/
set_option linter.unusedVariables false
set_option maxRecDepth 100000
set_option maxHeartbeats 4000000
namespace Go.Proofs.YtobkigllalbkiaaV.D
open Go.RowKit Go.Proofs.YtobkigllalbkiaaV
def m60 (K : Nat) (a0 : S_Span) (a1 : S_Span) : Option (Int) :=
 ((m58 K a0).bind fun v6 => (bif (v6 != 0) then some v6 else ((m58 K a1).bind fun v9 => some v9)))
abbrev S60_0 (q0 : Okp) (q1 q2 : World) (q3 : Nat) (q4 : S_Span) (q5 : Nat) (q6 : S_Span) : Prop := Sep q0 q1 q2 [.blk q3 109 [ii q4.Low, ii q4.High], .blk q5 109 [ii q6.Low, ii q6.High]] []
theorem c60 (ok : Okp) (K : Nat) (w : World) (a0 : S_Span) (a1 : S_Span)  (res : Int) (hm : m60 K a0 a1 = some res) :
  Calls Tryd.prog 60 #[.agg #[ii a0.Low, ii a0.High], .agg #[ii a1.Low, ii a1.High]] w (fun e w' => e = .returned (tup [ii res]) ∧ Sep ok w w' [] []) := by
 refine calls_W (args := [.agg #[ii a0.Low, ii a0.High], .agg #[ii a1.Low, ii a1.High]]) Tryd.func60 rfl Tryd.ntmps60 Tryd.results60 rfl fun r hr => ?_
 obtain ⟨r1, rfl⟩ := regen (r := r) [(0, .agg #[ii a0.Low, ii a0.High]), (1, .agg #[ii a1.Low, ii a1.High])] ⟨hr 0 _ rfl, hr 1 _ rfl, trivial⟩
 have H : Sep ok w w [] [] := Sep.start ok w
 unfold m60 at hm
 refine Wr ?_
 refine RL_cons (OB H (fun w2 b1 (H : Sep ok w w2 [.blk b1 109 [ii a0.Low, ii a0.High]] []) => ?_))
 refine RL_cons (OB H (fun w4 b3 (H : S60_0 ok w w4 b1 a0 b3 a1) => ?_))
 refine RL_p (xa (ii 0)) ?_
 refine W_seq ?_
 refine Wr ?_
 refine RL_p (xA 0 [ii a0.Low, ii a0.High] ag109 (H.c 0)) ?_
 obtain ⟨v6, hv5, hm⟩ := bind_some hm
 refine RL_cons (OC (xc [.agg #[ii a0.Low, ii a0.High]] (cf58 _ _)) (c58 okT K w4 a0  v6 hv5) ?_)
 rintro e w7 ⟨rfl, H2⟩
 have H : S60_0 ok w w7 b1 a0 b3 a1 := H.below H2.base
 clear H2
 refine ⟨_, rfl, ?_⟩
 refine RL_p (xa (ii v6)) ?_
 refine Wr ?_
 refine RL_p (xm (ii v6)) ?_
 refine RL_p (xN) ?_
 refine Wc (fun hb => ?_) (fun hb => ?_)
 ·have hm := cond_t hb hm
  refine W_seq ?_
  have H : Sep ok w w7 [] [] := (H.takeL 0)
  refine W_region ?_
  refine RL_p (xm (ii v6)) ?_
  refine RL_p (xa (ii v6)) ?_
  refine W_ret ?_
  obtain rfl := Option.some.inj hm
  exact ⟨[ii v6], (.tmp (by rfl) rfl), rfl, H.none_⟩
 have hm := cond_f hb hm
 refine W_skip ?_
 refine Wr ?_
 refine RL_p (xA 0 [ii a1.Low, ii a1.High] ag109 (H.c 1)) ?_
 obtain ⟨v9, hv8, hm⟩ := bind_some hm
 refine RL_cons (OC (xc [.agg #[ii a1.Low, ii a1.High]] (cf58 _ _)) (c58 okT K w7 a1  v9 hv8) ?_)
 rintro e w10 ⟨rfl, H2⟩
 have H : S60_0 ok w w10 b1 a0 b3 a1 := H.below H2.base
 clear H2
 refine ⟨_, rfl, ?_⟩
 refine RL_p (xa (ii v9)) ?_
 refine W_ret ?_
 obtain rfl := Option.some.inj hm
 exact ⟨[ii v9], (.tmp (by rfl) rfl), rfl, H.none_⟩
end Go.Proofs.YtobkigllalbkiaaV.D

/- A plain Lean function that answers as the Go function does (none: not told), and the proof that a call answers so. Written by program. -/
set_option linter.unusedVariables false
set_option maxRecDepth 100000
set_option maxHeartbeats 4000000
namespace Go.Proofs.YtobkigllalbkiaaV.D
open Go.RowKit Go.Proofs.YtobkigllalbkiaaV
def m40 (K : Nat) (a0 : S_Span) (a1 : S_Span) : Option (S_Span × Int) :=
 ((m60 K a0 a1).bind fun v8 => (bif (v8 != 0) then some ((⟨0, 0⟩ : S_Span), v8) else (ck (a0.Low + a1.Low) fun x11 => (ck (a0.High + a1.High) fun x12 => ((m59 K x11 x12).bind fun v14 => some (v14.1, v14.2))))))
abbrev S40_0 (q0 : Okp) (q1 q2 : World) (q3 : Nat) (q4 : S_Span) (q5 : Nat) (q6 : S_Span) (q7 : Nat) : Prop := Sep q0 q1 q2 [.blk q3 109 [ii q4.Low, ii q4.High], .blk q5 109 [ii q6.Low, ii q6.High], .blk q7 109 [ii 0, ii 0]] []
theorem c40 (ok : Okp) (K : Nat) (w : World) (a0 : S_Span) (a1 : S_Span)  (res : S_Span × Int) (hm : m40 K a0 a1 = some res) :
  Calls Tryd.prog 40 #[.agg #[ii a0.Low, ii a0.High], .agg #[ii a1.Low, ii a1.High]] w (fun e w' => e = .returned (tup [.agg #[ii res.1.Low, ii res.1.High], ii res.2]) ∧ Sep ok w w' [] []) := by
 refine calls_W (args := [.agg #[ii a0.Low, ii a0.High], .agg #[ii a1.Low, ii a1.High]]) Tryd.func40 rfl Tryd.ntmps40 Tryd.results40 rfl fun r hr => ?_
 obtain ⟨r1, rfl⟩ := regen (r := r) [(0, .agg #[ii a0.Low, ii a0.High]), (1, .agg #[ii a1.Low, ii a1.High])] ⟨hr 0 _ rfl, hr 1 _ rfl, trivial⟩
 have H : Sep ok w w [] [] := Sep.start ok w
 unfold m40 at hm
 refine Wr ?_
 refine RL_cons (OB H (fun w2 b1 (H : Sep ok w w2 [.blk b1 109 [ii a0.Low, ii a0.High]] []) => ?_))
 refine RL_cons (OB H (fun w4 b3 (H : Sep ok w w4 [.blk b1 109 [ii a0.Low, ii a0.High], .blk b3 109 [ii a1.Low, ii a1.High]] []) => ?_))
 refine RL_cons (OA ze109 H (fun w6 b5 (H : S40_0 ok w w6 b1 a0 b3 a1 b5) => ?_))
 refine RL_p (xa (ii 0)) ?_
 refine W_seq ?_
 refine Wr ?_
 refine RL_p (xA 0 [ii a0.Low, ii a0.High] ag109 (H.c 0)) ?_
 refine RL_p (xA 0 [ii a1.Low, ii a1.High] ag109 (H.c 1)) ?_
 obtain ⟨v8, hv7, hm⟩ := bind_some hm
 refine RL_cons (OC (xc [.agg #[ii a0.Low, ii a0.High], .agg #[ii a1.Low, ii a1.High]] (cf60 _ _)) (c60 okT K w6 a0 a1  v8 hv7) ?_)
 rintro e w9 ⟨rfl, H2⟩
 have H : S40_0 ok w w9 b1 a0 b3 a1 b5 := H.below H2.base
 clear H2
 refine ⟨_, rfl, ?_⟩
 refine RL_p (xa (ii v8)) ?_
 refine Wr ?_
 refine RL_p (xm (ii v8)) ?_
 refine RL_p (xN) ?_
 refine Wc (fun hb => ?_) (fun hb => ?_)
 ·have hm := cond_t hb hm
  refine W_seq ?_
  have H : Sep ok w w9 [.blk b5 109 [ii 0, ii 0]] [] := (H.pickL [2] (by decide))
  refine W_region ?_
  refine RL_p (x_build (vs := []) (cs := [ii 0, ii 0]) (by rfl) (by kernel_rfl)) ?_
  refine RL_p (xm (ii v8)) ?_
  refine RL_cons (OS 0 0 [ii 0, ii 0] sz109 H (fun w10 (H : Sep ok w w10 [.blk b5 109 [ii 0, ii 0]] []) => ?_))
  refine RL_p (xa (ii v8)) ?_
  refine W_ret ?_
  obtain rfl := Option.some.inj hm
  exact ⟨[.agg #[ii 0, ii 0], ii v8], (.cellA (by rfl) ag109 (H.c 0) (by rfl) (.tmp (by rfl) rfl)), rfl, H.none_⟩
 have hm := cond_f hb hm
 refine W_skip ?_
 refine Wr ?_
 refine RL_p (xf fo109_0) ?_
 refine RL_p (xl 0 (ii a0.Low) sc3 (H.c 0)) ?_
 refine RL_p (xf fo109_0) ?_
 refine RL_p (xl 0 (ii a1.Low) sc3 (H.c 1)) ?_
 obtain ⟨x11, ex11, qx11, ux11, hm⟩ := ck_some hm
 refine RL_p (xP ux11) ?_
 refine RL_p (xf fo109_1) ?_
 refine RL_p (xl 1 (ii a0.High) sc3 (H.c 0)) ?_
 refine RL_p (xf fo109_1) ?_
 refine RL_p (xl 1 (ii a1.High) sc3 (H.c 1)) ?_
 obtain ⟨x12, ex12, qx12, ux12, hm⟩ := ck_some hm
 refine RL_p (xP ux12) ?_
 obtain ⟨v14, hv13, hm⟩ := bind_some hm
 refine RL_cons (OC (xc [ii x11, ii x12] (cf59 _ _)) (c59 okT K w9 x11 x12  v14 hv13) ?_)
 rintro e w15 ⟨rfl, H2⟩
 have H : S40_0 ok w w15 b1 a0 b3 a1 b5 := H.below H2.base
 clear H2
 refine ⟨_, rfl, ?_⟩
 refine RL_p (xe (.agg #[ii v14.1.Low, ii v14.1.High])) ?_
 refine RL_p (xe (ii v14.2)) ?_
 refine RL_cons (OS 2 0 [ii v14.1.Low, ii v14.1.High] sz109 H (fun w16 (H : Sep ok w w16 [.blk b1 109 [ii a0.Low, ii a0.High], .blk b3 109 [ii a1.Low, ii a1.High], .blk b5 109 [ii v14.1.Low, ii v14.1.High]] []) => ?_))
 refine RL_p (xa (ii v14.2)) ?_
 refine W_ret ?_
 obtain rfl := Option.some.inj hm
 exact ⟨[.agg #[ii v14.1.Low, ii v14.1.High], ii v14.2], (.cellA (by rfl) ag109 (H.c 2) (by rfl) (.tmp (by rfl) rfl)), rfl, H.none_⟩
end Go.Proofs.YtobkigllalbkiaaV.D

/- A plain Lean function that answers as the Go function does (none: not told), and the proof that a call answers so. Written by program. -/
set_option linter.unusedVariables false
set_option maxRecDepth 100000
set_option maxHeartbeats 4000000
namespace Go.Proofs.YtobkigllalbkiaaV.D
open Go.RowKit Go.Proofs.YtobkigllalbkiaaV
def m41 (K : Nat) (a0 : S_Span) (a1 : Int) : Option (S_Span × Int) :=
 ((m58 K a0).bind fun v6 => (bif (v6 != 0) then some ((⟨0, 0⟩ : S_Span), v6) else ((bif (decide (a1 < 1)) then some true else some (decide (1099511627776 < a1))).bind fun b9 => (bif b9 then some ((⟨0, 0⟩ : S_Span), 2) else ((m29 K a0.Low a1).bind fun v14 => ((m29 K a0.High a1).bind fun v17 => some ((⟨v14.1, v17.1⟩ : S_Span), 0)))))))
abbrev S41_0 (q0 : Okp) (q1 q2 : World) (q3 : Nat) (q4 : S_Span) (q5 : Nat) : Prop := Sep q0 q1 q2 [.blk q3 109 [ii q4.Low, ii q4.High], .blk q5 109 [ii 0, ii 0]] []
theorem c41 (ok : Okp) (K : Nat) (w : World) (a0 : S_Span) (a1 : Int)  (res : S_Span × Int) (hm : m41 K a0 a1 = some res) :
  Calls Tryd.prog 41 #[.agg #[ii a0.Low, ii a0.High], ii a1] w (fun e w' => e = .returned (tup [.agg #[ii res.1.Low, ii res.1.High], ii res.2]) ∧ Sep ok w w' [] []) := by
 refine calls_W (args := [.agg #[ii a0.Low, ii a0.High], ii a1]) Tryd.func41 rfl Tryd.ntmps41 Tryd.results41 rfl fun r hr => ?_
 obtain ⟨r1, rfl⟩ := regen (r := r) [(0, .agg #[ii a0.Low, ii a0.High]), (1, ii a1)] ⟨hr 0 _ rfl, hr 1 _ rfl, trivial⟩
 have H : Sep ok w w [] [] := Sep.start ok w
 unfold m41 at hm
 refine Wr ?_
 refine RL_cons (OB H (fun w2 b1 (H : Sep ok w w2 [.blk b1 109 [ii a0.Low, ii a0.High]] []) => ?_))
 refine RL_cons (OA ze109 H (fun w4 b3 (H : S41_0 ok w w4 b1 a0 b3) => ?_))
 refine RL_p (xa (ii 0)) ?_
 refine W_seq ?_
 refine Wr ?_
 refine RL_p (xA 0 [ii a0.Low, ii a0.High] ag109 (H.c 0)) ?_
 obtain ⟨v6, hv5, hm⟩ := bind_some hm
 refine RL_cons (OC (xc [.agg #[ii a0.Low, ii a0.High]] (cf58 _ _)) (c58 okT K w4 a0  v6 hv5) ?_)
 rintro e w7 ⟨rfl, H2⟩
 have H : S41_0 ok w w7 b1 a0 b3 := H.below H2.base
 clear H2
 refine ⟨_, rfl, ?_⟩
 refine RL_p (xa (ii v6)) ?_
 refine Wr ?_
 refine RL_p (xm (ii v6)) ?_
 refine RL_p (xN) ?_
 refine Wc (fun hb => ?_) (fun hb => ?_)
 ·have hm := cond_t hb hm
  refine Wr ?_
  refine RL_p (x_build (vs := []) (cs := [ii 0, ii 0]) (by rfl) (by kernel_rfl)) ?_
  refine RL_p (xm (ii v6)) ?_
  refine RL_cons (OS 1 0 [ii 0, ii 0] sz109 H (fun w8 (H : S41_0 ok w w8 b1 a0 b3) => ?_))
  refine RL_p (xa (ii v6)) ?_
  refine W_ret ?_
  obtain rfl := Option.some.inj hm
  exact ⟨[.agg #[ii 0, ii 0], ii v6], (.cellA (by rfl) ag109 (H.c 1) (by rfl) (.tmp (by rfl) rfl)), rfl, H.none_⟩
 have hm := cond_f hb hm
 refine W_skip ?_
 refine W_seq ?_
 refine Wr ?_
 refine RL_p (xm (ii a1)) ?_
 refine RL_p (xL) ?_
 refine RL_p (xm (.bool (decide (a1 < 1)))) ?_
 obtain ⟨b9, hmS, hm⟩ := bind_some hm
 refine RL_cut 3 (fun r' w' => Agr [(22, .bool b9), (1, ii a1), (2, pp b1), (4, pp b3)] r' ∧ S41_0 ok w w' b1 a0 b3) ?_ ?_
 ·cases hbS : (decide (a1 < 1))
  ·have hm := cond_f hbS hmS
   refine RQ (xm (ii a1)) ?_
   refine RQ (xG) ?_
   refine RL_p (xF (.bool (decide (1099511627776 < a1)))) ?_
   refine RL_nil ?_
   exact ⟨⟨congrArg Value.bool (Option.some.inj hm), rfl, rfl, rfl, trivial⟩, H⟩
  have hm := cond_t hbS hmS
  refine RO ?_
  refine RO ?_
  refine RL_p (xT (.bool true)) ?_
  refine RL_nil ?_
  exact ⟨⟨congrArg Value.bool (Option.some.inj hm), rfl, rfl, rfl, trivial⟩, H⟩
 rintro r' w' ⟨hA, H⟩
 obtain ⟨r10, rfl⟩ := regen _ hA; clear hA
 obtain ⟨w11, rfl⟩ := wld w'
 show RL _ _ _ _ _ _ _
 refine Wc (fun hb => ?_) (fun hb => ?_)
 ·have hm := cond_t hb hm
  refine Wr ?_
  refine RL_p (x_build (vs := []) (cs := [ii 0, ii 0]) (by rfl) (by kernel_rfl)) ?_
  refine RL_cons (OS 1 0 [ii 0, ii 0] sz109 H (fun w12 (H : S41_0 ok w w12 b1 a0 b3) => ?_))
  refine RL_p (xa (ii 2)) ?_
  refine W_ret ?_
  obtain rfl := Option.some.inj hm
  exact ⟨[.agg #[ii 0, ii 0], ii 2], (.cellA (by rfl) ag109 (H.c 1) (by rfl) (.tmp (by rfl) rfl)), rfl, H.none_⟩
 have hm := cond_f hb hm
 refine W_skip ?_
 refine Wr ?_
 refine RL_p (xf fo109_0) ?_
 refine RL_p (xl 0 (ii a0.Low) sc3 (H.c 0)) ?_
 refine RL_p (xm (ii a1)) ?_
 obtain ⟨v14, hv13, hm⟩ := bind_some hm
 refine RL_cons (OC (xc [ii a0.Low, ii a1] (cf29 _ _)) (c29 okT K w11 a0.Low a1  v14 hv13) ?_)
 rintro e w15 ⟨rfl, H2⟩
 have H : S41_0 ok w w15 b1 a0 b3 := H.below H2.base
 clear H2
 refine ⟨_, rfl, ?_⟩
 refine RL_p (xm (tup [ii v14.1, ii v14.2])) ?_
 refine RL_p (xe (ii v14.1)) ?_
 refine RL_p (xe (ii v14.2)) ?_
 refine RL_p (xa (ii v14.1)) ?_
 refine RL_p (xa (ii v14.2)) ?_
 refine Wr ?_
 refine RL_p (xf fo109_1) ?_
 refine RL_p (xl 1 (ii a0.High) sc3 (H.c 0)) ?_
 refine RL_p (xm (ii a1)) ?_
 obtain ⟨v17, hv16, hm⟩ := bind_some hm
 refine RL_cons (OC (xc [ii a0.High, ii a1] (cf29 _ _)) (c29 okT K w15 a0.High a1  v17 hv16) ?_)
 rintro e w18 ⟨rfl, H2⟩
 have H : S41_0 ok w w18 b1 a0 b3 := H.below H2.base
 clear H2
 refine ⟨_, rfl, ?_⟩
 refine RL_p (xm (tup [ii v17.1, ii v17.2])) ?_
 refine RL_p (xe (ii v17.1)) ?_
 refine RL_p (xe (ii v17.2)) ?_
 refine RL_p (xa (ii v17.1)) ?_
 refine RL_p (xa (ii v17.2)) ?_
 refine Wr ?_
 refine RL_p (xm (ii v14.1)) ?_
 refine RL_p (xm (ii v17.1)) ?_
 refine RL_p (x_build (vs := [(0, ii v14.1), (1, ii v17.1)]) (cs := [ii v14.1, ii v17.1]) (by rfl) (by kernel_rfl)) ?_
 refine RL_cons (OS 1 0 [ii v14.1, ii v17.1] sz109 H (fun w19 (H : Sep ok w w19 [.blk b1 109 [ii a0.Low, ii a0.High], .blk b3 109 [ii v14.1, ii v17.1]] []) => ?_))
 refine RL_p (xa (ii 0)) ?_
 refine W_ret ?_
 obtain rfl := Option.some.inj hm
 exact ⟨[.agg #[ii v14.1, ii v17.1], ii 0], (.cellA (by rfl) ag109 (H.c 1) (by rfl) (.tmp (by rfl) rfl)), rfl, H.none_⟩
end Go.Proofs.YtobkigllalbkiaaV.D

/- A plain Lean function that answers as the Go function does (none: not told), and the proof that a call answers so. Written by program. -/
set_option linter.unusedVariables false
set_option maxRecDepth 100000
set_option maxHeartbeats 4000000
namespace Go.Proofs.YtobkigllalbkiaaV.D
open Go.RowKit Go.Proofs.YtobkigllalbkiaaV
abbrev L26_0 (q0 : (Ar3 (Ar3 Int))) : List Value := [ii q0.a0.a0, ii q0.a0.a1, ii q0.a0.a2, ii q0.a1.a0, ii q0.a1.a1, ii q0.a1.a2, ii q0.a2.a0, ii q0.a2.a1, ii q0.a2.a2]
abbrev L26_1 (q0 : S_Box) : List Value := [ii q0.Low.X, ii q0.Low.Y, ii q0.Low.Z, ii q0.High.X, ii q0.High.Y, ii q0.High.Z]
abbrev L26_2  : List Value := [ii 0, ii 0, ii 0, ii 0, ii 0, ii 0]
abbrev L26_3 (q0 : (Ar3 (Ar3 Int))) : List Value := [ii q0.a0.a0, ii q0.a0.a1, ii q0.a0.a2]
abbrev L26_4 (q0 : (Ar3 (Ar3 Int))) : List Value := [ii q0.a1.a0, ii q0.a1.a1, ii q0.a1.a2]
abbrev L26_5 (q0 : (Ar3 (Ar3 Int))) : List Value := [ii q0.a2.a0, ii q0.a2.a1, ii q0.a2.a2]
abbrev L26_6 (q0 : (Ar3 S_Span)) : List Value := [ii q0.a0.Low, ii q0.a0.High, ii q0.a1.Low, ii q0.a1.High, ii q0.a2.Low, ii q0.a2.High]
abbrev L26_7 (q0 : (Ar3 S_Span)) : List Value := [ii q0.a0.Low, ii q0.a0.High]
abbrev L26_8 (q0 : S_Span × Int) : List Value := [ii q0.1.Low, ii q0.1.High, ii 0, ii 0, ii 0, ii 0]
abbrev L26_9 (q0 : (Ar3 S_Span)) : List Value := [ii q0.a1.Low, ii q0.a1.High]
abbrev L26_10 (q0 : (Ar3 S_Span)) : List Value := [ii q0.a2.Low, ii q0.a2.High]
abbrev L26_11 (q0 : S_Span × Int) : List Value := [ii q0.1.Low, ii q0.1.High]
abbrev L26_12 (q0 : S_Span × Int) (q1 : S_Span × Int) : List Value := [ii q0.1.Low, ii q0.1.High, ii q1.1.Low, ii q1.1.High, ii 0, ii 0]
abbrev L26_13 (q0 : S_Span × Int) (q1 : S_Span × Int) (q2 : S_Span × Int) : List Value := [ii q0.1.Low, ii q0.1.High, ii q1.1.Low, ii q1.1.High, ii q2.1.Low, ii q2.1.High]
abbrev L26_14 (q0 : S_Box × Int) : List Value := [ii q0.1.Low.X, ii q0.1.Low.Y, ii q0.1.Low.Z, ii q0.1.High.X, ii q0.1.High.Y, ii q0.1.High.Z]
def m26 (K : Nat) (a0 : (Ar3 (Ar3 Int))) (a1 : S_Box) : Option (S_Box × Int) :=
 ((bif (decide (a0.a0.a0 < (-1024))) then some true else some (decide (1024 < a0.a0.a0))).bind fun b10 => (bif b10 then some ((⟨(⟨0, 0, 0⟩ : S_Vec), (⟨0, 0, 0⟩ : S_Vec)⟩ : S_Box), 2) else ((bif (decide (a0.a0.a1 < (-1024))) then some true else some (decide (1024 < a0.a0.a1))).bind fun b14 => (bif b14 then some ((⟨(⟨0, 0, 0⟩ : S_Vec), (⟨0, 0, 0⟩ : S_Vec)⟩ : S_Box), 2) else ((bif (decide (a0.a0.a2 < (-1024))) then some true else some (decide (1024 < a0.a0.a2))).bind fun b18 => (bif b18 then some ((⟨(⟨0, 0, 0⟩ : S_Vec), (⟨0, 0, 0⟩ : S_Vec)⟩ : S_Box), 2) else ((bif (decide (a0.a1.a0 < (-1024))) then some true else some (decide (1024 < a0.a1.a0))).bind fun b25 => (bif b25 then some ((⟨(⟨0, 0, 0⟩ : S_Vec), (⟨0, 0, 0⟩ : S_Vec)⟩ : S_Box), 2) else ((bif (decide (a0.a1.a1 < (-1024))) then some true else some (decide (1024 < a0.a1.a1))).bind fun b29 => (bif b29 then some ((⟨(⟨0, 0, 0⟩ : S_Vec), (⟨0, 0, 0⟩ : S_Vec)⟩ : S_Box), 2) else ((bif (decide (a0.a1.a2 < (-1024))) then some true else some (decide (1024 < a0.a1.a2))).bind fun b33 => (bif b33 then some ((⟨(⟨0, 0, 0⟩ : S_Vec), (⟨0, 0, 0⟩ : S_Vec)⟩ : S_Box), 2) else ((bif (decide (a0.a2.a0 < (-1024))) then some true else some (decide (1024 < a0.a2.a0))).bind fun b40 => (bif b40 then some ((⟨(⟨0, 0, 0⟩ : S_Vec), (⟨0, 0, 0⟩ : S_Vec)⟩ : S_Box), 2) else ((bif (decide (a0.a2.a1 < (-1024))) then some true else some (decide (1024 < a0.a2.a1))).bind fun b44 => (bif b44 then some ((⟨(⟨0, 0, 0⟩ : S_Vec), (⟨0, 0, 0⟩ : S_Vec)⟩ : S_Box), 2) else ((bif (decide (a0.a2.a2 < (-1024))) then some true else some (decide (1024 < a0.a2.a2))).bind fun b48 => (bif b48 then some ((⟨(⟨0, 0, 0⟩ : S_Vec), (⟨0, 0, 0⟩ : S_Vec)⟩ : S_Box), 2) else ((m24 K a1).bind fun v53 => (bif (v53 != 0) then some ((⟨(⟨0, 0, 0⟩ : S_Vec), (⟨0, 0, 0⟩ : S_Vec)⟩ : S_Box), v53) else ((m37 K a1).bind fun v57 => ((m39 K v57.a0 a0.a0.a0).bind fun v68 => (bif (v68.2 != 0) then some ((⟨(⟨0, 0, 0⟩ : S_Vec), (⟨0, 0, 0⟩ : S_Vec)⟩ : S_Box), v68.2) else ((m40 K (⟨0, 0⟩ : S_Span) v68.1).bind fun v76 => (bif (v76.2 != 0) then some ((⟨(⟨0, 0, 0⟩ : S_Vec), (⟨0, 0, 0⟩ : S_Vec)⟩ : S_Box), v76.2) else ((m39 K v57.a1 a0.a0.a1).bind fun v81 => (bif (v81.2 != 0) then some ((⟨(⟨0, 0, 0⟩ : S_Vec), (⟨0, 0, 0⟩ : S_Vec)⟩ : S_Box), v81.2) else ((m40 K v76.1 v81.1).bind fun v89 => (bif (v89.2 != 0) then some ((⟨(⟨0, 0, 0⟩ : S_Vec), (⟨0, 0, 0⟩ : S_Vec)⟩ : S_Box), v89.2) else ((m39 K v57.a2 a0.a0.a2).bind fun v94 => (bif (v94.2 != 0) then some ((⟨(⟨0, 0, 0⟩ : S_Vec), (⟨0, 0, 0⟩ : S_Vec)⟩ : S_Box), v94.2) else ((m40 K v89.1 v94.1).bind fun v102 => (bif (v102.2 != 0) then some ((⟨(⟨0, 0, 0⟩ : S_Vec), (⟨0, 0, 0⟩ : S_Vec)⟩ : S_Box), v102.2) else ((m41 K v102.1 256).bind fun v107 => (bif (v107.2 != 0) then some ((⟨(⟨0, 0, 0⟩ : S_Vec), (⟨0, 0, 0⟩ : S_Vec)⟩ : S_Box), v107.2) else ((m39 K v57.a0 a0.a1.a0).bind fun v115 => (bif (v115.2 != 0) then some ((⟨(⟨0, 0, 0⟩ : S_Vec), (⟨0, 0, 0⟩ : S_Vec)⟩ : S_Box), v115.2) else ((m40 K (⟨0, 0⟩ : S_Span) v115.1).bind fun v123 => (bif (v123.2 != 0) then some ((⟨(⟨0, 0, 0⟩ : S_Vec), (⟨0, 0, 0⟩ : S_Vec)⟩ : S_Box), v123.2) else ((m39 K v57.a1 a0.a1.a1).bind fun v128 => (bif (v128.2 != 0) then some ((⟨(⟨0, 0, 0⟩ : S_Vec), (⟨0, 0, 0⟩ : S_Vec)⟩ : S_Box), v128.2) else ((m40 K v123.1 v128.1).bind fun v136 => (bif (v136.2 != 0) then some ((⟨(⟨0, 0, 0⟩ : S_Vec), (⟨0, 0, 0⟩ : S_Vec)⟩ : S_Box), v136.2) else ((m39 K v57.a2 a0.a1.a2).bind fun v141 => (bif (v141.2 != 0) then some ((⟨(⟨0, 0, 0⟩ : S_Vec), (⟨0, 0, 0⟩ : S_Vec)⟩ : S_Box), v141.2) else ((m40 K v136.1 v141.1).bind fun v149 => (bif (v149.2 != 0) then some ((⟨(⟨0, 0, 0⟩ : S_Vec), (⟨0, 0, 0⟩ : S_Vec)⟩ : S_Box), v149.2) else ((m41 K v149.1 256).bind fun v154 => (bif (v154.2 != 0) then some ((⟨(⟨0, 0, 0⟩ : S_Vec), (⟨0, 0, 0⟩ : S_Vec)⟩ : S_Box), v154.2) else ((m39 K v57.a0 a0.a2.a0).bind fun v162 => (bif (v162.2 != 0) then some ((⟨(⟨0, 0, 0⟩ : S_Vec), (⟨0, 0, 0⟩ : S_Vec)⟩ : S_Box), v162.2) else ((m40 K (⟨0, 0⟩ : S_Span) v162.1).bind fun v170 => (bif (v170.2 != 0) then some ((⟨(⟨0, 0, 0⟩ : S_Vec), (⟨0, 0, 0⟩ : S_Vec)⟩ : S_Box), v170.2) else ((m39 K v57.a1 a0.a2.a1).bind fun v175 => (bif (v175.2 != 0) then some ((⟨(⟨0, 0, 0⟩ : S_Vec), (⟨0, 0, 0⟩ : S_Vec)⟩ : S_Box), v175.2) else ((m40 K v170.1 v175.1).bind fun v183 => (bif (v183.2 != 0) then some ((⟨(⟨0, 0, 0⟩ : S_Vec), (⟨0, 0, 0⟩ : S_Vec)⟩ : S_Box), v183.2) else ((m39 K v57.a2 a0.a2.a2).bind fun v188 => (bif (v188.2 != 0) then some ((⟨(⟨0, 0, 0⟩ : S_Vec), (⟨0, 0, 0⟩ : S_Vec)⟩ : S_Box), v188.2) else ((m40 K v183.1 v188.1).bind fun v196 => (bif (v196.2 != 0) then some ((⟨(⟨0, 0, 0⟩ : S_Vec), (⟨0, 0, 0⟩ : S_Vec)⟩ : S_Box), v196.2) else ((m41 K v196.1 256).bind fun v201 => (bif (v201.2 != 0) then some ((⟨(⟨0, 0, 0⟩ : S_Vec), (⟨0, 0, 0⟩ : S_Vec)⟩ : S_Box), v201.2) else ((m42 K (⟨v107.1, v154.1, v201.1⟩ : (Ar3 S_Span))).bind fun v206 => ((m24 K v206).bind fun v212 => (bif (v212 != 0) then some ((⟨(⟨0, 0, 0⟩ : S_Vec), (⟨0, 0, 0⟩ : S_Vec)⟩ : S_Box), 20) else some (v206, 0)))))))))))))))))))))))))))))))))))))))))))))))))))))))))))))))))))
abbrev S26_0 (q0 : Okp) (q1 q2 : World) (q3 : Nat) (q4 : (Ar3 (Ar3 Int))) (q5 : Nat) (q6 : S_Box) (q7 : Nat) : Prop := Sep q0 q1 q2 [.blk q3 29 (L26_0 q4), .blk q5 50 (L26_1 q6), .blk q7 50 L26_2] []
abbrev S26_1 (q0 : Okp) (q1 q2 : World) (q3 : Nat) (q4 : (Ar3 (Ar3 Int))) (q5 : Nat) (q6 : S_Box) (q7 q8 : Nat) : Prop := Sep q0 q1 q2 [.blk q3 29 (L26_0 q4), .blk q5 50 (L26_1 q6), .blk q7 50 L26_2, .blk q8 28 (L26_3 q4)] []
abbrev S26_2 (q0 : Okp) (q1 q2 : World) (q3 : Nat) : Prop := Sep q0 q1 q2 [.blk q3 50 L26_2] []
abbrev S26_3 (q0 : Okp) (q1 q2 : World) (q3 : Nat) (q4 : (Ar3 (Ar3 Int))) (q5 : Nat) (q6 : S_Box) (q7 q8 q9 : Nat) : Prop := Sep q0 q1 q2 [.blk q3 29 (L26_0 q4), .blk q5 50 (L26_1 q6), .blk q7 50 L26_2, .blk q8 28 (L26_3 q4), .blk q9 28 (L26_4 q4)] []
abbrev S26_4 (q0 : Okp) (q1 q2 : World) (q3 q4 : Nat) (q5 : (Ar3 S_Span)) (q6 q7 : Nat) (q8 : S_Span × Int) : Prop := Sep q0 q1 q2 [.blk q3 50 L26_2, .blk q4 110 (L26_6 q5), .blk q6 110 L26_2, .blk q7 109 [ii q8.1.Low, ii q8.1.High]] []
abbrev S26_5 (q0 : Okp) (q1 q2 : World) (q3 q4 : Nat) (q5 : (Ar3 S_Span)) (q6 : Nat) (q7 : S_Span × Int) (q8 : Nat) (q9 : S_Span × Int) : Prop := Sep q0 q1 q2 [.blk q3 50 L26_2, .blk q4 110 (L26_6 q5), .blk q6 110 (L26_8 q7), .blk q8 109 [ii q9.1.Low, ii q9.1.High]] []
abbrev S26_6 (q0 : Okp) (q1 q2 : World) (q3 q4 : Nat) (q5 : (Ar3 S_Span)) (q6 : Nat) (q7 : S_Span × Int) (q8 : Nat) (q9 : S_Span × Int) (q10 : Nat) (q11 : S_Span × Int) : Prop := Sep q0 q1 q2 [.blk q3 50 L26_2, .blk q4 110 (L26_6 q5), .blk q6 110 (L26_8 q7), .blk q8 109 [ii q9.1.Low, ii q9.1.High], .blk q10 109 [ii q11.1.Low, ii q11.1.High]] []
abbrev S26_7 (q0 : Okp) (q1 q2 : World) (q3 q4 : Nat) (q5 : (Ar3 S_Span)) (q6 : Nat) (q7 : S_Span × Int) : Prop := Sep q0 q1 q2 [.blk q3 50 L26_2, .blk q4 110 (L26_6 q5), .blk q6 110 (L26_8 q7)] []
abbrev S26_8 (q0 : Okp) (q1 q2 : World) (q3 q4 : Nat) (q5 : (Ar3 S_Span)) (q6 : Nat) (q7 : S_Span × Int) (q8 : Nat) (q9 : S_Span × Int) : Prop := Sep q0 q1 q2 [.blk q3 50 L26_2, .blk q4 110 (L26_6 q5), .blk q6 110 (L26_8 q7), .blk q8 109 (L26_11 q9)] []
abbrev S26_9 (q0 : Okp) (q1 q2 : World) (q3 q4 : Nat) (q5 : (Ar3 S_Span)) (q6 : Nat) (q7 q8 : S_Span × Int) (q9 : Nat) (q10 : S_Span × Int) (q11 : Nat) (q12 : S_Span × Int) : Prop := Sep q0 q1 q2 [.blk q3 50 L26_2, .blk q4 110 (L26_6 q5), .blk q6 110 (L26_12 q7 q8), .blk q9 109 (L26_11 q10), .blk q11 109 (L26_11 q12)] []
abbrev S26_10 (q0 : Okp) (q1 q2 : World) (q3 q4 : Nat) (q5 : (Ar3 S_Span)) (q6 : Nat) (q7 q8 : S_Span × Int) (q9 : Nat) (q10 : S_Span × Int) (q11 : Nat) (q12 : S_Span × Int) (q13 : Nat) (q14 : S_Span × Int) : Prop := Sep q0 q1 q2 [.blk q3 50 L26_2, .blk q4 110 (L26_6 q5), .blk q6 110 (L26_12 q7 q8), .blk q9 109 (L26_11 q10), .blk q11 109 (L26_11 q12), .blk q13 109 (L26_11 q14)] []
abbrev S26_11 (q0 : Okp) (q1 q2 : World) (q3 q4 : Nat) (q5 : (Ar3 S_Span)) (q6 : Nat) (q7 q8 : S_Span × Int) : Prop := Sep q0 q1 q2 [.blk q3 50 L26_2, .blk q4 110 (L26_6 q5), .blk q6 110 (L26_12 q7 q8)] []
abbrev S26_12 (q0 : Okp) (q1 q2 : World) (q3 q4 : Nat) (q5 : (Ar3 S_Span)) (q6 : Nat) (q7 q8 : S_Span × Int) (q9 : Nat) (q10 : (Ar3 (Ar3 Int))) (q11 : Nat) (q12 : S_Span × Int) : Prop := Sep q0 q1 q2 [.blk q3 50 L26_2, .blk q4 110 (L26_6 q5), .blk q6 110 (L26_12 q7 q8), .blk q9 28 (L26_5 q10), .blk q11 109 (L26_11 q12)] []
abbrev S26_13 (q0 : Okp) (q1 q2 : World) (q3 q4 : Nat) (q5 : (Ar3 S_Span)) (q6 : Nat) (q7 q8 q9 : S_Span × Int) (q10 : Nat) (q11 : (Ar3 (Ar3 Int))) (q12 : Nat) (q13 : S_Span × Int) (q14 : Nat) (q15 : S_Span × Int) : Prop := Sep q0 q1 q2 [.blk q3 50 L26_2, .blk q4 110 (L26_6 q5), .blk q6 110 (L26_13 q7 q8 q9), .blk q10 28 (L26_5 q11), .blk q12 109 (L26_11 q13), .blk q14 109 (L26_11 q15)] []
abbrev S26_14 (q0 : Okp) (q1 q2 : World) (q3 q4 : Nat) (q5 : (Ar3 S_Span)) (q6 : Nat) (q7 q8 q9 : S_Span × Int) (q10 : Nat) (q11 : S_Span × Int) : Prop := Sep q0 q1 q2 [.blk q3 50 L26_2, .blk q4 110 (L26_6 q5), .blk q6 110 (L26_13 q7 q8 q9), .blk q10 109 (L26_11 q11)] []
theorem c26 (ok : Okp) (K : Nat) (w : World) (a0 : (Ar3 (Ar3 Int))) (a1 : S_Box)  (res : S_Box × Int) (hm : m26 K a0 a1 = some res) :
  Calls Tryd.prog 26 #[.agg (L26_0 a0).toArray, .agg (L26_1 a1).toArray] w (fun e w' => e = .returned (tup [.agg (L26_14 res).toArray, ii res.2]) ∧ Sep ok w w' [] []) := by
 refine calls_W (args := [.agg (L26_0 a0).toArray, .agg (L26_1 a1).toArray]) Tryd.func26 rfl Tryd.ntmps26 Tryd.results26 rfl fun r hr => ?_
 obtain ⟨r1, rfl⟩ := regen (r := r) [(0, .agg (L26_0 a0).toArray), (1, .agg (L26_1 a1).toArray)] ⟨hr 0 _ rfl, hr 1 _ rfl, trivial⟩
 have H : Sep ok w w [] [] := Sep.start ok w
 unfold m26 at hm
 refine Wr ?_
 refine RL_cons (OB H (fun w2 b1 (H : Sep ok w w2 [.blk b1 29 (L26_0 a0)] []) => ?_))
 refine RL_cons (OB H (fun w4 b3 (H : Sep ok w w4 [.blk b1 29 (L26_0 a0), .blk b3 50 (L26_1 a1)] []) => ?_))
 refine RL_cons (OA ze50 H (fun w6 b5 (H : S26_0 ok w w6 b1 a0 b3 a1 b5) => ?_))
 refine RL_p (xa (ii 0)) ?_
 refine W_seq ?_
 refine Wr ?_
 refine RL_p (xA 0 (L26_0 a0) ag29 (H.c 0)) ?_
 refine RL_p (xm (ii 0)) ?_
 refine W_block ?_
 refine W_unroll 40 ?_
 refine WU_succ ?_
 refine Wr ?_
 refine RL_p (xL) ?_
 refine W_seq ?_
 refine Wt ?_
 refine W_skip ?_
 refine W_seq ?_
 refine W_block ?_
 refine Wr ?_
 refine RL_p (xJ (L26_3 a0) ar29 ag28) ?_
 refine RL_cons (OA ze28 H (fun w8 b7 (H : Sep ok w w8 [.blk b1 29 (L26_0 a0), .blk b3 50 (L26_1 a1), .blk b5 50 L26_2, .blk b7 28 [ii 0, ii 0, ii 0]] []) => ?_))
 refine RL_cons (OS 3 0 (L26_3 a0) sz28 H (fun w9 (H : S26_1 ok w w9 b1 a0 b3 a1 b5 b7) => ?_))
 refine Wr ?_
 refine RL_p (xA 0 (L26_3 a0) ag28 (H.c 3)) ?_
 refine RL_p (xm (ii 0)) ?_
 refine W_block ?_
 refine W_unroll 40 ?_
 refine WU_succ ?_
 refine Wr ?_
 refine RL_p (xL) ?_
 refine W_seq ?_
 refine Wt ?_
 refine W_skip ?_
 refine W_seq ?_
 refine W_block ?_
 refine Wr ?_
 refine RL_p (xi ar28 sz3 sc3) ?_
 refine RL_p (xa (ii a0.a0.a0)) ?_
 refine Wr ?_
 refine RL_p (xm (ii a0.a0.a0)) ?_
 refine RL_p (xL) ?_
 refine RL_p (xm (.bool (decide (a0.a0.a0 < (-1024))))) ?_
 obtain ⟨b10, hmS, hm⟩ := bind_some hm
 refine RL_cut 3 (fun r' w' => Agr [(34, .bool b10), (2, pp b1), (3, pp b3), (4, pp b5), (21, .agg (L26_0 a0).toArray), (22, ii 0), (25, .agg (L26_3 a0).toArray), (26, ii 0)] r' ∧ S26_1 ok w w' b1 a0 b3 a1 b5 b7) ?_ ?_
 ·cases hbS : (decide (a0.a0.a0 < (-1024)))
  ·have hm := cond_f hbS hmS
   refine RQ (xm (ii a0.a0.a0)) ?_
   refine RQ (xG) ?_
   refine RL_p (xF (.bool (decide (1024 < a0.a0.a0)))) ?_
   refine RL_nil ?_
   exact ⟨⟨congrArg Value.bool (Option.some.inj hm), rfl, rfl, rfl, rfl, rfl, rfl, rfl, trivial⟩, H⟩
  have hm := cond_t hbS hmS
  refine RO ?_
  refine RO ?_
  refine RL_p (xT (.bool true)) ?_
  refine RL_nil ?_
  exact ⟨⟨congrArg Value.bool (Option.some.inj hm), rfl, rfl, rfl, rfl, rfl, rfl, rfl, trivial⟩, H⟩
 rintro r' w' ⟨hA, H⟩
 obtain ⟨r11, rfl⟩ := regen _ hA; clear hA
 obtain ⟨w12, rfl⟩ := wld w'
 show RL _ _ _ _ _ _ _
 refine Wc (fun hb => ?_) (fun hb => ?_)
 ·have hm := cond_t hb hm
  refine W_seq ?_
  have H : S26_2 ok w w12 b5 := (H.pickL [2] (by decide))
  refine W_region ?_
  refine RL_p (x_build (vs := []) (cs := L26_2) (by rfl) (by kernel_rfl)) ?_
  refine RL_cons (OS 0 0 L26_2 sz50 H (fun w13 (H : S26_2 ok w w13 b5) => ?_))
  refine RL_p (xa (ii 2)) ?_
  refine W_ret ?_
  obtain rfl := Option.some.inj hm
  exact ⟨[.agg L26_2.toArray, ii 2], (.cellA (by rfl) ag50 (H.c 0) (by rfl) (.tmp (by rfl) rfl)), rfl, H.none_⟩
 have hm := cond_f hb hm
 refine W_skip ?_
 refine W_region ?_
 refine RL_p (xp 1) ?_
 refine RL_p (xm (ii 1)) ?_
 refine WU_succ ?_
 refine Wr ?_
 refine RL_p (xL) ?_
 refine W_seq ?_
 refine Wt ?_
 refine W_skip ?_
 refine W_seq ?_
 refine W_block ?_
 refine Wr ?_
 refine RL_p (xi ar28 sz3 sc3) ?_
 refine RL_p (xa (ii a0.a0.a1)) ?_
 refine Wr ?_
 refine RL_p (xm (ii a0.a0.a1)) ?_
 refine RL_p (xL) ?_
 refine RL_p (xm (.bool (decide (a0.a0.a1 < (-1024))))) ?_
 obtain ⟨b14, hmS, hm⟩ := bind_some hm
 refine RL_cut 3 (fun r' w' => Agr [(34, .bool b14), (2, pp b1), (3, pp b3), (4, pp b5), (21, .agg (L26_0 a0).toArray), (22, ii 0), (25, .agg (L26_3 a0).toArray), (26, ii 1)] r' ∧ S26_1 ok w w' b1 a0 b3 a1 b5 b7) ?_ ?_
 ·cases hbS : (decide (a0.a0.a1 < (-1024)))
  ·have hm := cond_f hbS hmS
   refine RQ (xm (ii a0.a0.a1)) ?_
   refine RQ (xG) ?_
   refine RL_p (xF (.bool (decide (1024 < a0.a0.a1)))) ?_
   refine RL_nil ?_
   exact ⟨⟨congrArg Value.bool (Option.some.inj hm), rfl, rfl, rfl, rfl, rfl, rfl, rfl, trivial⟩, H⟩
  have hm := cond_t hbS hmS
  refine RO ?_
  refine RO ?_
  refine RL_p (xT (.bool true)) ?_
  refine RL_nil ?_
  exact ⟨⟨congrArg Value.bool (Option.some.inj hm), rfl, rfl, rfl, rfl, rfl, rfl, rfl, trivial⟩, H⟩
 rintro r' w' ⟨hA, H⟩
 obtain ⟨r15, rfl⟩ := regen _ hA; clear hA
 obtain ⟨w16, rfl⟩ := wld w'
 show RL _ _ _ _ _ _ _
 refine Wc (fun hb => ?_) (fun hb => ?_)
 ·have hm := cond_t hb hm
  refine W_seq ?_
  have H : S26_2 ok w w16 b5 := (H.pickL [2] (by decide))
  refine W_region ?_
  refine RL_p (x_build (vs := []) (cs := L26_2) (by rfl) (by kernel_rfl)) ?_
  refine RL_cons (OS 0 0 L26_2 sz50 H (fun w17 (H : S26_2 ok w w17 b5) => ?_))
  refine RL_p (xa (ii 2)) ?_
  refine W_ret ?_
  obtain rfl := Option.some.inj hm
  exact ⟨[.agg L26_2.toArray, ii 2], (.cellA (by rfl) ag50 (H.c 0) (by rfl) (.tmp (by rfl) rfl)), rfl, H.none_⟩
 have hm := cond_f hb hm
 refine W_skip ?_
 refine W_region ?_
 refine RL_p (xp 2) ?_
 refine RL_p (xm (ii 2)) ?_
 refine WU_succ ?_
 refine Wr ?_
 refine RL_p (xL) ?_
 refine W_seq ?_
 refine Wt ?_
 refine W_skip ?_
 refine W_seq ?_
 refine W_block ?_
 refine Wr ?_
 refine RL_p (xi ar28 sz3 sc3) ?_
 refine RL_p (xa (ii a0.a0.a2)) ?_
 refine Wr ?_
 refine RL_p (xm (ii a0.a0.a2)) ?_
 refine RL_p (xL) ?_
 refine RL_p (xm (.bool (decide (a0.a0.a2 < (-1024))))) ?_
 obtain ⟨b18, hmS, hm⟩ := bind_some hm
 refine RL_cut 3 (fun r' w' => Agr [(34, .bool b18), (2, pp b1), (3, pp b3), (4, pp b5), (21, .agg (L26_0 a0).toArray), (22, ii 0), (25, .agg (L26_3 a0).toArray), (26, ii 2)] r' ∧ S26_1 ok w w' b1 a0 b3 a1 b5 b7) ?_ ?_
 ·cases hbS : (decide (a0.a0.a2 < (-1024)))
  ·have hm := cond_f hbS hmS
   refine RQ (xm (ii a0.a0.a2)) ?_
   refine RQ (xG) ?_
   refine RL_p (xF (.bool (decide (1024 < a0.a0.a2)))) ?_
   refine RL_nil ?_
   exact ⟨⟨congrArg Value.bool (Option.some.inj hm), rfl, rfl, rfl, rfl, rfl, rfl, rfl, trivial⟩, H⟩
  have hm := cond_t hbS hmS
  refine RO ?_
  refine RO ?_
  refine RL_p (xT (.bool true)) ?_
  refine RL_nil ?_
  exact ⟨⟨congrArg Value.bool (Option.some.inj hm), rfl, rfl, rfl, rfl, rfl, rfl, rfl, trivial⟩, H⟩
 rintro r' w' ⟨hA, H⟩
 obtain ⟨r19, rfl⟩ := regen _ hA; clear hA
 obtain ⟨w20, rfl⟩ := wld w'
 show RL _ _ _ _ _ _ _
 refine Wc (fun hb => ?_) (fun hb => ?_)
 ·have hm := cond_t hb hm
  refine W_seq ?_
  have H : S26_2 ok w w20 b5 := (H.pickL [2] (by decide))
  refine W_region ?_
  refine RL_p (x_build (vs := []) (cs := L26_2) (by rfl) (by kernel_rfl)) ?_
  refine RL_cons (OS 0 0 L26_2 sz50 H (fun w21 (H : S26_2 ok w w21 b5) => ?_))
  refine RL_p (xa (ii 2)) ?_
  refine W_ret ?_
  obtain rfl := Option.some.inj hm
  exact ⟨[.agg L26_2.toArray, ii 2], (.cellA (by rfl) ag50 (H.c 0) (by rfl) (.tmp (by rfl) rfl)), rfl, H.none_⟩
 have hm := cond_f hb hm
 refine W_skip ?_
 refine W_region ?_
 refine RL_p (xp 3) ?_
 refine RL_p (xm (ii 3)) ?_
 refine WU_succ ?_
 refine Wr ?_
 refine RL_p (xL) ?_
 refine W_seq ?_
 refine Wf ?_
 refine W_exit ?_
 refine W_region ?_
 refine RL_p (xp 1) ?_
 refine RL_p (xm (ii 1)) ?_
 refine WU_succ ?_
 refine Wr ?_
 refine RL_p (xL) ?_
 refine W_seq ?_
 refine Wt ?_
 refine W_skip ?_
 refine W_seq ?_
 refine W_block ?_
 refine Wr ?_
 refine RL_p (xJ (L26_4 a0) ar29 ag28) ?_
 refine RL_cons (OA ze28 H (fun w23 b22 (H : Sep ok w w23 [.blk b1 29 (L26_0 a0), .blk b3 50 (L26_1 a1), .blk b5 50 L26_2, .blk b7 28 (L26_3 a0), .blk b22 28 [ii 0, ii 0, ii 0]] []) => ?_))
 refine RL_cons (OS 4 0 (L26_4 a0) sz28 H (fun w24 (H : S26_3 ok w w24 b1 a0 b3 a1 b5 b7 b22) => ?_))
 refine Wr ?_
 refine RL_p (xA 0 (L26_4 a0) ag28 (H.c 4)) ?_
 refine RL_p (xm (ii 0)) ?_
 refine W_block ?_
 refine W_unroll 40 ?_
 refine WU_succ ?_
 refine Wr ?_
 refine RL_p (xL) ?_
 refine W_seq ?_
 refine Wt ?_
 refine W_skip ?_
 refine W_seq ?_
 refine W_block ?_
 refine Wr ?_
 refine RL_p (xi ar28 sz3 sc3) ?_
 refine RL_p (xa (ii a0.a1.a0)) ?_
 refine Wr ?_
 refine RL_p (xm (ii a0.a1.a0)) ?_
 refine RL_p (xL) ?_
 refine RL_p (xm (.bool (decide (a0.a1.a0 < (-1024))))) ?_
 obtain ⟨b25, hmS, hm⟩ := bind_some hm
 refine RL_cut 3 (fun r' w' => Agr [(34, .bool b25), (2, pp b1), (3, pp b3), (4, pp b5), (21, .agg (L26_0 a0).toArray), (22, ii 1), (25, .agg (L26_4 a0).toArray), (26, ii 0)] r' ∧ S26_3 ok w w' b1 a0 b3 a1 b5 b7 b22) ?_ ?_
 ·cases hbS : (decide (a0.a1.a0 < (-1024)))
  ·have hm := cond_f hbS hmS
   refine RQ (xm (ii a0.a1.a0)) ?_
   refine RQ (xG) ?_
   refine RL_p (xF (.bool (decide (1024 < a0.a1.a0)))) ?_
   refine RL_nil ?_
   exact ⟨⟨congrArg Value.bool (Option.some.inj hm), rfl, rfl, rfl, rfl, rfl, rfl, rfl, trivial⟩, H⟩
  have hm := cond_t hbS hmS
  refine RO ?_
  refine RO ?_
  refine RL_p (xT (.bool true)) ?_
  refine RL_nil ?_
  exact ⟨⟨congrArg Value.bool (Option.some.inj hm), rfl, rfl, rfl, rfl, rfl, rfl, rfl, trivial⟩, H⟩
 rintro r' w' ⟨hA, H⟩
 obtain ⟨r26, rfl⟩ := regen _ hA; clear hA
 obtain ⟨w27, rfl⟩ := wld w'
 show RL _ _ _ _ _ _ _
 refine Wc (fun hb => ?_) (fun hb => ?_)
 ·have hm := cond_t hb hm
  refine W_seq ?_
  have H : S26_2 ok w w27 b5 := (H.pickL [2] (by decide))
  refine W_region ?_
  refine RL_p (x_build (vs := []) (cs := L26_2) (by rfl) (by kernel_rfl)) ?_
  refine RL_cons (OS 0 0 L26_2 sz50 H (fun w28 (H : S26_2 ok w w28 b5) => ?_))
  refine RL_p (xa (ii 2)) ?_
  refine W_ret ?_
  obtain rfl := Option.some.inj hm
  exact ⟨[.agg L26_2.toArray, ii 2], (.cellA (by rfl) ag50 (H.c 0) (by rfl) (.tmp (by rfl) rfl)), rfl, H.none_⟩
 have hm := cond_f hb hm
 refine W_skip ?_
 refine W_region ?_
 refine RL_p (xp 1) ?_
 refine RL_p (xm (ii 1)) ?_
 refine WU_succ ?_
 refine Wr ?_
 refine RL_p (xL) ?_
 refine W_seq ?_
 refine Wt ?_
 refine W_skip ?_
 refine W_seq ?_
 refine W_block ?_
 refine Wr ?_
 refine RL_p (xi ar28 sz3 sc3) ?_
 refine RL_p (xa (ii a0.a1.a1)) ?_
 refine Wr ?_
 refine RL_p (xm (ii a0.a1.a1)) ?_
 refine RL_p (xL) ?_
 refine RL_p (xm (.bool (decide (a0.a1.a1 < (-1024))))) ?_
 obtain ⟨b29, hmS, hm⟩ := bind_some hm
 refine RL_cut 3 (fun r' w' => Agr [(34, .bool b29), (2, pp b1), (3, pp b3), (4, pp b5), (21, .agg (L26_0 a0).toArray), (22, ii 1), (25, .agg (L26_4 a0).toArray), (26, ii 1)] r' ∧ S26_3 ok w w' b1 a0 b3 a1 b5 b7 b22) ?_ ?_
 ·cases hbS : (decide (a0.a1.a1 < (-1024)))
  ·have hm := cond_f hbS hmS
   refine RQ (xm (ii a0.a1.a1)) ?_
   refine RQ (xG) ?_
   refine RL_p (xF (.bool (decide (1024 < a0.a1.a1)))) ?_
   refine RL_nil ?_
   exact ⟨⟨congrArg Value.bool (Option.some.inj hm), rfl, rfl, rfl, rfl, rfl, rfl, rfl, trivial⟩, H⟩
  have hm := cond_t hbS hmS
  refine RO ?_
  refine RO ?_
  refine RL_p (xT (.bool true)) ?_
  refine RL_nil ?_
  exact ⟨⟨congrArg Value.bool (Option.some.inj hm), rfl, rfl, rfl, rfl, rfl, rfl, rfl, trivial⟩, H⟩
 rintro r' w' ⟨hA, H⟩
 obtain ⟨r30, rfl⟩ := regen _ hA; clear hA
 obtain ⟨w31, rfl⟩ := wld w'
 show RL _ _ _ _ _ _ _
 refine Wc (fun hb => ?_) (fun hb => ?_)
 ·have hm := cond_t hb hm
  refine W_seq ?_
  have H : S26_2 ok w w31 b5 := (H.pickL [2] (by decide))
  refine W_region ?_
  refine RL_p (x_build (vs := []) (cs := L26_2) (by rfl) (by kernel_rfl)) ?_
  refine RL_cons (OS 0 0 L26_2 sz50 H (fun w32 (H : S26_2 ok w w32 b5) => ?_))
  refine RL_p (xa (ii 2)) ?_
  refine W_ret ?_
  obtain rfl := Option.some.inj hm
  exact ⟨[.agg L26_2.toArray, ii 2], (.cellA (by rfl) ag50 (H.c 0) (by rfl) (.tmp (by rfl) rfl)), rfl, H.none_⟩
 have hm := cond_f hb hm
 refine W_skip ?_
 refine W_region ?_
 refine RL_p (xp 2) ?_
 refine RL_p (xm (ii 2)) ?_
 refine WU_succ ?_
 refine Wr ?_
 refine RL_p (xL) ?_
 refine W_seq ?_
 refine Wt ?_
 refine W_skip ?_
 refine W_seq ?_
 refine W_block ?_
 refine Wr ?_
 refine RL_p (xi ar28 sz3 sc3) ?_
 refine RL_p (xa (ii a0.a1.a2)) ?_
 refine Wr ?_
 refine RL_p (xm (ii a0.a1.a2)) ?_
 refine RL_p (xL) ?_
 refine RL_p (xm (.bool (decide (a0.a1.a2 < (-1024))))) ?_
 obtain ⟨b33, hmS, hm⟩ := bind_some hm
 refine RL_cut 3 (fun r' w' => Agr [(34, .bool b33), (2, pp b1), (3, pp b3), (4, pp b5), (21, .agg (L26_0 a0).toArray), (22, ii 1), (25, .agg (L26_4 a0).toArray), (26, ii 2)] r' ∧ S26_3 ok w w' b1 a0 b3 a1 b5 b7 b22) ?_ ?_
 ·cases hbS : (decide (a0.a1.a2 < (-1024)))
  ·have hm := cond_f hbS hmS
   refine RQ (xm (ii a0.a1.a2)) ?_
   refine RQ (xG) ?_
   refine RL_p (xF (.bool (decide (1024 < a0.a1.a2)))) ?_
   refine RL_nil ?_
   exact ⟨⟨congrArg Value.bool (Option.some.inj hm), rfl, rfl, rfl, rfl, rfl, rfl, rfl, trivial⟩, H⟩
  have hm := cond_t hbS hmS
  refine RO ?_
  refine RO ?_
  refine RL_p (xT (.bool true)) ?_
  refine RL_nil ?_
  exact ⟨⟨congrArg Value.bool (Option.some.inj hm), rfl, rfl, rfl, rfl, rfl, rfl, rfl, trivial⟩, H⟩
 rintro r' w' ⟨hA, H⟩
 obtain ⟨r34, rfl⟩ := regen _ hA; clear hA
 obtain ⟨w35, rfl⟩ := wld w'
 show RL _ _ _ _ _ _ _
 refine Wc (fun hb => ?_) (fun hb => ?_)
 ·have hm := cond_t hb hm
  refine W_seq ?_
  have H : S26_2 ok w w35 b5 := (H.pickL [2] (by decide))
  refine W_region ?_
  refine RL_p (x_build (vs := []) (cs := L26_2) (by rfl) (by kernel_rfl)) ?_
  refine RL_cons (OS 0 0 L26_2 sz50 H (fun w36 (H : S26_2 ok w w36 b5) => ?_))
  refine RL_p (xa (ii 2)) ?_
  refine W_ret ?_
  obtain rfl := Option.some.inj hm
  exact ⟨[.agg L26_2.toArray, ii 2], (.cellA (by rfl) ag50 (H.c 0) (by rfl) (.tmp (by rfl) rfl)), rfl, H.none_⟩
 have hm := cond_f hb hm
 refine W_skip ?_
 refine W_region ?_
 refine RL_p (xp 3) ?_
 refine RL_p (xm (ii 3)) ?_
 refine WU_succ ?_
 refine Wr ?_
 refine RL_p (xL) ?_
 refine W_seq ?_
 refine Wf ?_
 refine W_exit ?_
 refine W_region ?_
 refine RL_p (xp 2) ?_
 refine RL_p (xm (ii 2)) ?_
 refine WU_succ ?_
 refine Wr ?_
 refine RL_p (xL) ?_
 refine W_seq ?_
 refine Wt ?_
 refine W_skip ?_
 refine W_seq ?_
 refine W_block ?_
 refine Wr ?_
 refine RL_p (xJ (L26_5 a0) ar29 ag28) ?_
 refine RL_cons (OA ze28 H (fun w38 b37 (H : Sep ok w w38 [.blk b1 29 (L26_0 a0), .blk b3 50 (L26_1 a1), .blk b5 50 L26_2, .blk b7 28 (L26_3 a0), .blk b22 28 (L26_4 a0), .blk b37 28 [ii 0, ii 0, ii 0]] []) => ?_))
 refine RL_cons (OS 5 0 (L26_5 a0) sz28 H (fun w39 (H : Sep ok w w39 [.blk b1 29 (L26_0 a0), .blk b3 50 (L26_1 a1), .blk b5 50 L26_2, .blk b7 28 (L26_3 a0), .blk b22 28 (L26_4 a0), .blk b37 28 (L26_5 a0)] []) => ?_))
 refine Wr ?_
 refine RL_p (xA 0 (L26_5 a0) ag28 (H.c 5)) ?_
 refine RL_p (xm (ii 0)) ?_
 refine W_block ?_
 refine W_unroll 40 ?_
 refine WU_succ ?_
 refine W_seq ?_
 have H : S26_0 ok w w39 b1 a0 b3 a1 b5 := (H.takeL 3)
 refine W_region ?_
 refine RL_p (xL) ?_
 refine W_seq ?_
 refine Wt ?_
 refine W_skip ?_
 refine W_seq ?_
 refine W_block ?_
 refine Wr ?_
 refine RL_p (xi ar28 sz3 sc3) ?_
 refine RL_p (xa (ii a0.a2.a0)) ?_
 refine Wr ?_
 refine RL_p (xm (ii a0.a2.a0)) ?_
 refine RL_p (xL) ?_
 refine RL_p (xm (.bool (decide (a0.a2.a0 < (-1024))))) ?_
 obtain ⟨b40, hmS, hm⟩ := bind_some hm
 refine RL_cut 3 (fun r' w' => Agr [(34, .bool b40), (2, pp b1), (3, pp b3), (4, pp b5), (21, .agg (L26_0 a0).toArray), (22, ii 2), (25, .agg (L26_5 a0).toArray), (26, ii 0)] r' ∧ S26_0 ok w w' b1 a0 b3 a1 b5) ?_ ?_
 ·cases hbS : (decide (a0.a2.a0 < (-1024)))
  ·have hm := cond_f hbS hmS
   refine RQ (xm (ii a0.a2.a0)) ?_
   refine RQ (xG) ?_
   refine RL_p (xF (.bool (decide (1024 < a0.a2.a0)))) ?_
   refine RL_nil ?_
   exact ⟨⟨congrArg Value.bool (Option.some.inj hm), rfl, rfl, rfl, rfl, rfl, rfl, rfl, trivial⟩, H⟩
  have hm := cond_t hbS hmS
  refine RO ?_
  refine RO ?_
  refine RL_p (xT (.bool true)) ?_
  refine RL_nil ?_
  exact ⟨⟨congrArg Value.bool (Option.some.inj hm), rfl, rfl, rfl, rfl, rfl, rfl, rfl, trivial⟩, H⟩
 rintro r' w' ⟨hA, H⟩
 obtain ⟨r41, rfl⟩ := regen _ hA; clear hA
 obtain ⟨w42, rfl⟩ := wld w'
 show RL _ _ _ _ _ _ _
 refine Wc (fun hb => ?_) (fun hb => ?_)
 ·have hm := cond_t hb hm
  refine Wr ?_
  refine RL_p (x_build (vs := []) (cs := L26_2) (by rfl) (by kernel_rfl)) ?_
  refine RL_cons (OS 2 0 L26_2 sz50 H (fun w43 (H : S26_0 ok w w43 b1 a0 b3 a1 b5) => ?_))
  refine RL_p (xa (ii 2)) ?_
  refine W_ret ?_
  obtain rfl := Option.some.inj hm
  exact ⟨[.agg L26_2.toArray, ii 2], (.cellA (by rfl) ag50 (H.c 2) (by rfl) (.tmp (by rfl) rfl)), rfl, H.none_⟩
 have hm := cond_f hb hm
 refine W_skip ?_
 refine W_region ?_
 refine RL_p (xp 1) ?_
 refine RL_p (xm (ii 1)) ?_
 refine WU_succ ?_
 refine Wr ?_
 refine RL_p (xL) ?_
 refine W_seq ?_
 refine Wt ?_
 refine W_skip ?_
 refine W_seq ?_
 refine W_block ?_
 refine Wr ?_
 refine RL_p (xi ar28 sz3 sc3) ?_
 refine RL_p (xa (ii a0.a2.a1)) ?_
 refine Wr ?_
 refine RL_p (xm (ii a0.a2.a1)) ?_
 refine RL_p (xL) ?_
 refine RL_p (xm (.bool (decide (a0.a2.a1 < (-1024))))) ?_
 obtain ⟨b44, hmS, hm⟩ := bind_some hm
 refine RL_cut 3 (fun r' w' => Agr [(34, .bool b44), (2, pp b1), (3, pp b3), (4, pp b5), (21, .agg (L26_0 a0).toArray), (22, ii 2), (25, .agg (L26_5 a0).toArray), (26, ii 1)] r' ∧ S26_0 ok w w' b1 a0 b3 a1 b5) ?_ ?_
 ·cases hbS : (decide (a0.a2.a1 < (-1024)))
  ·have hm := cond_f hbS hmS
   refine RQ (xm (ii a0.a2.a1)) ?_
   refine RQ (xG) ?_
   refine RL_p (xF (.bool (decide (1024 < a0.a2.a1)))) ?_
   refine RL_nil ?_
   exact ⟨⟨congrArg Value.bool (Option.some.inj hm), rfl, rfl, rfl, rfl, rfl, rfl, rfl, trivial⟩, H⟩
  have hm := cond_t hbS hmS
  refine RO ?_
  refine RO ?_
  refine RL_p (xT (.bool true)) ?_
  refine RL_nil ?_
  exact ⟨⟨congrArg Value.bool (Option.some.inj hm), rfl, rfl, rfl, rfl, rfl, rfl, rfl, trivial⟩, H⟩
 rintro r' w' ⟨hA, H⟩
 obtain ⟨r45, rfl⟩ := regen _ hA; clear hA
 obtain ⟨w46, rfl⟩ := wld w'
 show RL _ _ _ _ _ _ _
 refine Wc (fun hb => ?_) (fun hb => ?_)
 ·have hm := cond_t hb hm
  refine Wr ?_
  refine RL_p (x_build (vs := []) (cs := L26_2) (by rfl) (by kernel_rfl)) ?_
  refine RL_cons (OS 2 0 L26_2 sz50 H (fun w47 (H : S26_0 ok w w47 b1 a0 b3 a1 b5) => ?_))
  refine RL_p (xa (ii 2)) ?_
  refine W_ret ?_
  obtain rfl := Option.some.inj hm
  exact ⟨[.agg L26_2.toArray, ii 2], (.cellA (by rfl) ag50 (H.c 2) (by rfl) (.tmp (by rfl) rfl)), rfl, H.none_⟩
 have hm := cond_f hb hm
 refine W_skip ?_
 refine W_region ?_
 refine RL_p (xp 2) ?_
 refine RL_p (xm (ii 2)) ?_
 refine WU_succ ?_
 refine Wr ?_
 refine RL_p (xL) ?_
 refine W_seq ?_
 refine Wt ?_
 refine W_skip ?_
 refine W_seq ?_
 refine W_block ?_
 refine Wr ?_
 refine RL_p (xi ar28 sz3 sc3) ?_
 refine RL_p (xa (ii a0.a2.a2)) ?_
 refine Wr ?_
 refine RL_p (xm (ii a0.a2.a2)) ?_
 refine RL_p (xL) ?_
 refine RL_p (xm (.bool (decide (a0.a2.a2 < (-1024))))) ?_
 obtain ⟨b48, hmS, hm⟩ := bind_some hm
 refine RL_cut 3 (fun r' w' => Agr [(34, .bool b48), (2, pp b1), (3, pp b3), (4, pp b5), (21, .agg (L26_0 a0).toArray), (22, ii 2), (25, .agg (L26_5 a0).toArray), (26, ii 2)] r' ∧ S26_0 ok w w' b1 a0 b3 a1 b5) ?_ ?_
 ·cases hbS : (decide (a0.a2.a2 < (-1024)))
  ·have hm := cond_f hbS hmS
   refine RQ (xm (ii a0.a2.a2)) ?_
   refine RQ (xG) ?_
   refine RL_p (xF (.bool (decide (1024 < a0.a2.a2)))) ?_
   refine RL_nil ?_
   exact ⟨⟨congrArg Value.bool (Option.some.inj hm), rfl, rfl, rfl, rfl, rfl, rfl, rfl, trivial⟩, H⟩
  have hm := cond_t hbS hmS
  refine RO ?_
  refine RO ?_
  refine RL_p (xT (.bool true)) ?_
  refine RL_nil ?_
  exact ⟨⟨congrArg Value.bool (Option.some.inj hm), rfl, rfl, rfl, rfl, rfl, rfl, rfl, trivial⟩, H⟩
 rintro r' w' ⟨hA, H⟩
 obtain ⟨r49, rfl⟩ := regen _ hA; clear hA
 obtain ⟨w50, rfl⟩ := wld w'
 show RL _ _ _ _ _ _ _
 refine Wc (fun hb => ?_) (fun hb => ?_)
 ·have hm := cond_t hb hm
  refine Wr ?_
  refine RL_p (x_build (vs := []) (cs := L26_2) (by rfl) (by kernel_rfl)) ?_
  refine RL_cons (OS 2 0 L26_2 sz50 H (fun w51 (H : S26_0 ok w w51 b1 a0 b3 a1 b5) => ?_))
  refine RL_p (xa (ii 2)) ?_
  refine W_ret ?_
  obtain rfl := Option.some.inj hm
  exact ⟨[.agg L26_2.toArray, ii 2], (.cellA (by rfl) ag50 (H.c 2) (by rfl) (.tmp (by rfl) rfl)), rfl, H.none_⟩
 have hm := cond_f hb hm
 refine W_skip ?_
 refine W_region ?_
 refine RL_p (xp 3) ?_
 refine RL_p (xm (ii 3)) ?_
 refine WU_succ ?_
 refine Wr ?_
 refine RL_p (xL) ?_
 refine W_seq ?_
 refine Wf ?_
 refine W_exit ?_
 refine W_region ?_
 refine RL_p (xp 3) ?_
 refine RL_p (xm (ii 3)) ?_
 refine WU_succ ?_
 refine Wr ?_
 refine RL_p (xL) ?_
 refine W_seq ?_
 refine Wf ?_
 refine W_exit ?_
 refine W_seq ?_
 refine Wr ?_
 refine RL_p (xA 0 (L26_1 a1) ag50 (H.c 1)) ?_
 obtain ⟨v53, hv52, hm⟩ := bind_some hm
 refine RL_cons (OC (xc [.agg (L26_1 a1).toArray] (cf24 _ _)) (c24 okT K w50 a1  v53 hv52) ?_)
 rintro e w54 ⟨rfl, H2⟩
 have H : S26_0 ok w w54 b1 a0 b3 a1 b5 := H.below H2.base
 clear H2
 refine ⟨_, rfl, ?_⟩
 refine RL_p (xa (ii v53)) ?_
 refine Wr ?_
 refine RL_p (xm (ii v53)) ?_
 refine RL_p (xN) ?_
 refine Wc (fun hb => ?_) (fun hb => ?_)
 ·have hm := cond_t hb hm
  refine Wr ?_
  refine RL_p (x_build (vs := []) (cs := L26_2) (by rfl) (by kernel_rfl)) ?_
  refine RL_p (xm (ii v53)) ?_
  refine RL_cons (OS 2 0 L26_2 sz50 H (fun w55 (H : S26_0 ok w w55 b1 a0 b3 a1 b5) => ?_))
  refine RL_p (xa (ii v53)) ?_
  refine W_ret ?_
  obtain rfl := Option.some.inj hm
  exact ⟨[.agg L26_2.toArray, ii v53], (.cellA (by rfl) ag50 (H.c 2) (by rfl) (.tmp (by rfl) rfl)), rfl, H.none_⟩
 have hm := cond_f hb hm
 refine W_skip ?_
 refine Wr ?_
 refine RL_p (xA 0 (L26_1 a1) ag50 (H.c 1)) ?_
 obtain ⟨v57, hv56, hm⟩ := bind_some hm
 refine RL_cons (OC (xc [.agg (L26_1 a1).toArray] (cf37 _ _)) (c37 okT K w54 a1  v57 hv56) ?_)
 rintro e w58 ⟨rfl, H2⟩
 have H : S26_0 ok w w58 b1 a0 b3 a1 b5 := H.below H2.base
 clear H2
 refine ⟨_, rfl, ?_⟩
 refine RL_cons (OA ze110 H (fun w60 b59 (H : Sep ok w w60 [.blk b1 29 (L26_0 a0), .blk b3 50 (L26_1 a1), .blk b5 50 L26_2, .blk b59 110 L26_2] []) => ?_))
 refine RL_cons (OS 3 0 (L26_6 v57) sz110 H (fun w61 (H : Sep ok w w61 [.blk b1 29 (L26_0 a0), .blk b3 50 (L26_1 a1), .blk b5 50 L26_2, .blk b59 110 (L26_6 v57)] []) => ?_))
 refine Wr ?_
 refine RL_cons (OA ze110 H (fun w63 b62 (H : Sep ok w w63 [.blk b1 29 (L26_0 a0), .blk b3 50 (L26_1 a1), .blk b5 50 L26_2, .blk b59 110 (L26_6 v57), .blk b62 110 L26_2] []) => ?_))
 refine W_seq ?_
 refine Wr ?_
 refine RL_p (xA 0 (L26_0 a0) ag29 (H.c 0)) ?_
 refine RL_p (xm (ii 0)) ?_
 refine W_block ?_
 refine W_unroll 40 ?_
 refine WU_succ ?_
 refine Wr ?_
 refine RL_p (xL) ?_
 refine W_seq ?_
 refine Wt ?_
 refine W_skip ?_
 refine W_seq ?_
 refine W_block ?_
 refine Wr ?_
 refine RL_p (xm (ii 0)) ?_
 refine RL_p (xJ (L26_3 a0) ar29 ag28) ?_
 refine RL_cons (OA ze28 H (fun w65 b64 (H : Sep ok w w65 [.blk b1 29 (L26_0 a0), .blk b3 50 (L26_1 a1), .blk b5 50 L26_2, .blk b59 110 (L26_6 v57), .blk b62 110 L26_2, .blk b64 28 [ii 0, ii 0, ii 0]] []) => ?_))
 refine RL_p (xa (ii 0)) ?_
 refine RL_cons (OS 5 0 (L26_3 a0) sz28 H (fun w66 (H : Sep ok w w66 [.blk b1 29 (L26_0 a0), .blk b3 50 (L26_1 a1), .blk b5 50 L26_2, .blk b59 110 (L26_6 v57), .blk b62 110 L26_2, .blk b64 28 (L26_3 a0)] []) => ?_))
 refine W_seq ?_
 refine Wr ?_
 refine RL_p (xA 0 (L26_3 a0) ag28 (H.c 5)) ?_
 refine RL_p (xm (ii 0)) ?_
 refine W_block ?_
 refine W_unroll 40 ?_
 refine WU_succ ?_
 refine W_seq ?_
 have H : Sep ok w w66 [.blk b5 50 L26_2, .blk b59 110 (L26_6 v57), .blk b62 110 L26_2] [] := (H.pickL [2, 3, 4] (by decide))
 refine W_region ?_
 refine RL_p (xL) ?_
 refine W_seq ?_
 refine Wt ?_
 refine W_skip ?_
 refine W_seq ?_
 refine W_block ?_
 refine Wr ?_
 refine RL_p (xm (ii 0)) ?_
 refine RL_p (xi ar28 sz3 sc3) ?_
 refine RL_p (xa (ii 0)) ?_
 refine RL_p (xa (ii a0.a0.a0)) ?_
 refine Wr ?_
 refine RL_p (xm (ii 0)) ?_
 refine RL_p (xI ar110 sz109) ?_
 refine RL_p (xA 0 (L26_7 v57) ag109 (H.c 1)) ?_
 refine RL_p (xm (ii a0.a0.a0)) ?_
 obtain ⟨v68, hv67, hm⟩ := bind_some hm
 refine RL_cons (OC (xc [.agg (L26_7 v57).toArray, ii a0.a0.a0] (cf39 _ _)) (c39 okT K w66 v57.a0 a0.a0.a0  v68 hv67) ?_)
 rintro e w69 ⟨rfl, H2⟩
 have H : Sep ok w w69 [.blk b5 50 L26_2, .blk b59 110 (L26_6 v57), .blk b62 110 L26_2] [] := H.below H2.base
 clear H2
 refine ⟨_, rfl, ?_⟩
 refine RL_p (xm (tup [.agg #[ii v68.1.Low, ii v68.1.High], ii v68.2])) ?_
 refine RL_p (xe (.agg #[ii v68.1.Low, ii v68.1.High])) ?_
 refine RL_p (xe (ii v68.2)) ?_
 refine RL_cons (OA ze109 H (fun w71 b70 (H : Sep ok w w71 [.blk b5 50 L26_2, .blk b59 110 (L26_6 v57), .blk b62 110 L26_2, .blk b70 109 [ii 0, ii 0]] []) => ?_))
 refine RL_cons (OS 3 0 [ii v68.1.Low, ii v68.1.High] sz109 H (fun w72 (H : S26_4 ok w w72 b5 b59 v57 b62 b70 v68) => ?_))
 refine RL_p (xa (ii v68.2)) ?_
 refine W_seq ?_
 refine Wr ?_
 refine RL_p (xm (ii v68.2)) ?_
 refine RL_p (xN) ?_
 refine Wc (fun hb => ?_) (fun hb => ?_)
 ·have hm := cond_t hb hm
  refine W_seq ?_
  have H : S26_2 ok w w72 b5 := (H.takeL 1)
  refine W_region ?_
  refine RL_p (x_build (vs := []) (cs := L26_2) (by rfl) (by kernel_rfl)) ?_
  refine RL_p (xm (ii v68.2)) ?_
  refine RL_cons (OS 0 0 L26_2 sz50 H (fun w73 (H : S26_2 ok w w73 b5) => ?_))
  refine RL_p (xa (ii v68.2)) ?_
  refine W_ret ?_
  obtain rfl := Option.some.inj hm
  exact ⟨[.agg L26_2.toArray, ii v68.2], (.cellA (by rfl) ag50 (H.c 0) (by rfl) (.tmp (by rfl) rfl)), rfl, H.none_⟩
 have hm := cond_f hb hm
 refine W_skip ?_
 refine W_seq ?_
 refine W_draw [.free 0, .free 1, .free 2, .take 3, .take 4, .tail 5, .free 6, .free 7, .free 8, .free 9, .tail 10, .free 11] (fun wS => S26_4 ok w wS b5 b59 v57 b62 b70 v68) [5, 10] [0, 1, 2, 6, 7, 8, 9, 11] mixed0 (by kernel_rfl) (by kernel_rfl) (by kernel_rfl) (by rfl) (by exact H.drew) ?_
 obtain ⟨w74, hW⟩ : ∃ W : World, W = { w72 with drawn := w72.drawn + 1 } := ⟨_, rfl⟩
 rw [← hW]
 have H : S26_4 ok w w74 b5 b59 v57 b62 b70 v68 := by rw [hW]; exact H.drew
 clear hW
 refine PF (a := xm (ii 0)) (b := ?_)
 refine PF (a := xm (ii 0)) (b := ?_)
 refine PF (a := xI ar110 sz109) (b := ?_)
 refine PT' (a := fun H => xA 0 [ii 0, ii 0] ag109 (H.c 2)) (b := ?_)
 refine PT' (a := fun H => xA 0 [ii v68.1.Low, ii v68.1.High] ag109 (H.c 3)) (b := ?_)
 obtain ⟨v76, hv75, hm⟩ := bind_some hm
 refine PL (a := OC (xc [.agg #[ii 0, ii 0], .agg #[ii v68.1.Low, ii v68.1.High]] (cf40 _ _)) (c40 okT K w74 (⟨0, 0⟩ : S_Span) v68.1  v76 hv75) ?_)
 rintro e w77 ⟨rfl, H2⟩
 have H : S26_4 ok w w77 b5 b59 v57 b62 b70 v68 := H.below H2.base
 clear H2
 refine ⟨_, rfl, ?_⟩
 show PR _ _ _ _ _ _ _ _
 refine PF (a := xm (tup [.agg #[ii v76.1.Low, ii v76.1.High], ii v76.2])) (b := ?_)
 refine PF (a := xe (.agg #[ii v76.1.Low, ii v76.1.High])) (b := ?_)
 refine PF (a := xe (ii v76.2)) (b := ?_)
 refine PF (a := xI ar110 sz109) (b := ?_)
 refine PL (a := OS 2 0 [ii v76.1.Low, ii v76.1.High] sz109 H (fun w78 (H : S26_5 ok w w78 b5 b59 v57 b62 v76 b70 v68) => ?_))
 refine PF (a := xa (ii v76.2)) (b := ?_)
 refine PR_nil ?_
 refine Wr ?_
 refine RL_p (xm (ii v76.2)) ?_
 refine RL_p (xN) ?_
 refine Wc (fun hb => ?_) (fun hb => ?_)
 ·have hm := cond_t hb hm
  refine W_seq ?_
  have H : S26_2 ok w w78 b5 := (H.takeL 1)
  refine W_region ?_
  refine RL_p (x_build (vs := []) (cs := L26_2) (by rfl) (by kernel_rfl)) ?_
  refine RL_p (xm (ii v76.2)) ?_
  refine RL_cons (OS 0 0 L26_2 sz50 H (fun w79 (H : S26_2 ok w w79 b5) => ?_))
  refine RL_p (xa (ii v76.2)) ?_
  refine W_ret ?_
  obtain rfl := Option.some.inj hm
  exact ⟨[.agg L26_2.toArray, ii v76.2], (.cellA (by rfl) ag50 (H.c 0) (by rfl) (.tmp (by rfl) rfl)), rfl, H.none_⟩
 have hm := cond_f hb hm
 refine W_skip ?_
 refine W_region ?_
 refine RL_p (xp 1) ?_
 refine RL_p (xm (ii 1)) ?_
 refine WU_succ ?_
 refine Wr ?_
 refine RL_p (xL) ?_
 refine W_seq ?_
 refine Wt ?_
 refine W_skip ?_
 refine W_seq ?_
 refine W_block ?_
 refine Wr ?_
 refine RL_p (xm (ii 1)) ?_
 refine RL_p (xi ar28 sz3 sc3) ?_
 refine RL_p (xa (ii 1)) ?_
 refine RL_p (xa (ii a0.a0.a1)) ?_
 refine Wr ?_
 refine RL_p (xm (ii 1)) ?_
 refine RL_p (xI ar110 sz109) ?_
 refine RL_p (xA 2 (L26_9 v57) ag109 (H.c 1)) ?_
 refine RL_p (xm (ii a0.a0.a1)) ?_
 obtain ⟨v81, hv80, hm⟩ := bind_some hm
 refine RL_cons (OC (xc [.agg (L26_9 v57).toArray, ii a0.a0.a1] (cf39 _ _)) (c39 okT K w78 v57.a1 a0.a0.a1  v81 hv80) ?_)
 rintro e w82 ⟨rfl, H2⟩
 have H : S26_5 ok w w82 b5 b59 v57 b62 v76 b70 v68 := H.below H2.base
 clear H2
 refine ⟨_, rfl, ?_⟩
 refine RL_p (xm (tup [.agg #[ii v81.1.Low, ii v81.1.High], ii v81.2])) ?_
 refine RL_p (xe (.agg #[ii v81.1.Low, ii v81.1.High])) ?_
 refine RL_p (xe (ii v81.2)) ?_
 refine RL_cons (OA ze109 H (fun w84 b83 (H : Sep ok w w84 [.blk b5 50 L26_2, .blk b59 110 (L26_6 v57), .blk b62 110 (L26_8 v76), .blk b70 109 [ii v68.1.Low, ii v68.1.High], .blk b83 109 [ii 0, ii 0]] []) => ?_))
 refine RL_cons (OS 4 0 [ii v81.1.Low, ii v81.1.High] sz109 H (fun w85 (H : S26_6 ok w w85 b5 b59 v57 b62 v76 b70 v68 b83 v81) => ?_))
 refine RL_p (xa (ii v81.2)) ?_
 refine W_seq ?_
 refine Wr ?_
 refine RL_p (xm (ii v81.2)) ?_
 refine RL_p (xN) ?_
 refine Wc (fun hb => ?_) (fun hb => ?_)
 ·have hm := cond_t hb hm
  refine W_seq ?_
  have H : S26_2 ok w w85 b5 := (H.takeL 1)
  refine W_region ?_
  refine RL_p (x_build (vs := []) (cs := L26_2) (by rfl) (by kernel_rfl)) ?_
  refine RL_p (xm (ii v81.2)) ?_
  refine RL_cons (OS 0 0 L26_2 sz50 H (fun w86 (H : S26_2 ok w w86 b5) => ?_))
  refine RL_p (xa (ii v81.2)) ?_
  refine W_ret ?_
  obtain rfl := Option.some.inj hm
  exact ⟨[.agg L26_2.toArray, ii v81.2], (.cellA (by rfl) ag50 (H.c 0) (by rfl) (.tmp (by rfl) rfl)), rfl, H.none_⟩
 have hm := cond_f hb hm
 refine W_skip ?_
 refine W_seq ?_
 refine W_draw [.free 0, .free 1, .free 2, .take 3, .take 4, .tail 5, .free 6, .free 7, .free 8, .free 9, .tail 10, .free 11] (fun wS => S26_6 ok w wS b5 b59 v57 b62 v76 b70 v68 b83 v81) [5, 10] [0, 1, 2, 6, 7, 8, 9, 11] mixed0 (by kernel_rfl) (by kernel_rfl) (by kernel_rfl) (by rfl) (by exact H.drew) ?_
 obtain ⟨w87, hW⟩ : ∃ W : World, W = { w85 with drawn := w85.drawn + 1 } := ⟨_, rfl⟩
 rw [← hW]
 have H : S26_6 ok w w87 b5 b59 v57 b62 v76 b70 v68 b83 v81 := by rw [hW]; exact H.drew
 clear hW
 refine PF (a := xm (ii 0)) (b := ?_)
 refine PF (a := xm (ii 0)) (b := ?_)
 refine PF (a := xI ar110 sz109) (b := ?_)
 refine PT' (a := fun H => xA 0 [ii v76.1.Low, ii v76.1.High] ag109 (H.c 2)) (b := ?_)
 refine PT' (a := fun H => xA 0 [ii v81.1.Low, ii v81.1.High] ag109 (H.c 4)) (b := ?_)
 obtain ⟨v89, hv88, hm⟩ := bind_some hm
 refine PL (a := OC (xc [.agg #[ii v76.1.Low, ii v76.1.High], .agg #[ii v81.1.Low, ii v81.1.High]] (cf40 _ _)) (c40 okT K w87 v76.1 v81.1  v89 hv88) ?_)
 rintro e w90 ⟨rfl, H2⟩
 have H : S26_6 ok w w90 b5 b59 v57 b62 v76 b70 v68 b83 v81 := H.below H2.base
 clear H2
 refine ⟨_, rfl, ?_⟩
 show PR _ _ _ _ _ _ _ _
 refine PF (a := xm (tup [.agg #[ii v89.1.Low, ii v89.1.High], ii v89.2])) (b := ?_)
 refine PF (a := xe (.agg #[ii v89.1.Low, ii v89.1.High])) (b := ?_)
 refine PF (a := xe (ii v89.2)) (b := ?_)
 refine PF (a := xI ar110 sz109) (b := ?_)
 refine PL (a := OS 2 0 [ii v89.1.Low, ii v89.1.High] sz109 H (fun w91 (H : S26_6 ok w w91 b5 b59 v57 b62 v89 b70 v68 b83 v81) => ?_))
 refine PF (a := xa (ii v89.2)) (b := ?_)
 refine PR_nil ?_
 refine W_seq ?_
 have H : S26_7 ok w w91 b5 b59 v57 b62 v89 := (H.takeL 3)
 refine W_region ?_
 refine RL_p (xm (ii v89.2)) ?_
 refine RL_p (xN) ?_
 refine Wc (fun hb => ?_) (fun hb => ?_)
 ·have hm := cond_t hb hm
  refine Wr ?_
  refine RL_p (x_build (vs := []) (cs := L26_2) (by rfl) (by kernel_rfl)) ?_
  refine RL_p (xm (ii v89.2)) ?_
  refine RL_cons (OS 0 0 L26_2 sz50 H (fun w92 (H : S26_7 ok w w92 b5 b59 v57 b62 v89) => ?_))
  refine RL_p (xa (ii v89.2)) ?_
  refine W_ret ?_
  obtain rfl := Option.some.inj hm
  exact ⟨[.agg L26_2.toArray, ii v89.2], (.cellA (by rfl) ag50 (H.c 0) (by rfl) (.tmp (by rfl) rfl)), rfl, H.none_⟩
 have hm := cond_f hb hm
 refine W_skip ?_
 refine W_region ?_
 refine RL_p (xp 2) ?_
 refine RL_p (xm (ii 2)) ?_
 refine WU_succ ?_
 refine Wr ?_
 refine RL_p (xL) ?_
 refine W_seq ?_
 refine Wt ?_
 refine W_skip ?_
 refine W_seq ?_
 refine W_block ?_
 refine Wr ?_
 refine RL_p (xm (ii 2)) ?_
 refine RL_p (xi ar28 sz3 sc3) ?_
 refine RL_p (xa (ii 2)) ?_
 refine RL_p (xa (ii a0.a0.a2)) ?_
 refine Wr ?_
 refine RL_p (xm (ii 2)) ?_
 refine RL_p (xI ar110 sz109) ?_
 refine RL_p (xA 4 (L26_10 v57) ag109 (H.c 1)) ?_
 refine RL_p (xm (ii a0.a0.a2)) ?_
 obtain ⟨v94, hv93, hm⟩ := bind_some hm
 refine RL_cons (OC (xc [.agg (L26_10 v57).toArray, ii a0.a0.a2] (cf39 _ _)) (c39 okT K w91 v57.a2 a0.a0.a2  v94 hv93) ?_)
 rintro e w95 ⟨rfl, H2⟩
 have H : S26_7 ok w w95 b5 b59 v57 b62 v89 := H.below H2.base
 clear H2
 refine ⟨_, rfl, ?_⟩
 refine RL_p (xm (tup [.agg #[ii v94.1.Low, ii v94.1.High], ii v94.2])) ?_
 refine RL_p (xe (.agg #[ii v94.1.Low, ii v94.1.High])) ?_
 refine RL_p (xe (ii v94.2)) ?_
 refine RL_cons (OA ze109 H (fun w97 b96 (H : Sep ok w w97 [.blk b5 50 L26_2, .blk b59 110 (L26_6 v57), .blk b62 110 (L26_8 v89), .blk b96 109 [ii 0, ii 0]] []) => ?_))
 refine RL_cons (OS 3 0 [ii v94.1.Low, ii v94.1.High] sz109 H (fun w98 (H : S26_5 ok w w98 b5 b59 v57 b62 v89 b96 v94) => ?_))
 refine RL_p (xa (ii v94.2)) ?_
 refine W_seq ?_
 refine Wr ?_
 refine RL_p (xm (ii v94.2)) ?_
 refine RL_p (xN) ?_
 refine Wc (fun hb => ?_) (fun hb => ?_)
 ·have hm := cond_t hb hm
  refine W_seq ?_
  have H : S26_2 ok w w98 b5 := (H.takeL 1)
  refine W_region ?_
  refine RL_p (x_build (vs := []) (cs := L26_2) (by rfl) (by kernel_rfl)) ?_
  refine RL_p (xm (ii v94.2)) ?_
  refine RL_cons (OS 0 0 L26_2 sz50 H (fun w99 (H : S26_2 ok w w99 b5) => ?_))
  refine RL_p (xa (ii v94.2)) ?_
  refine W_ret ?_
  obtain rfl := Option.some.inj hm
  exact ⟨[.agg L26_2.toArray, ii v94.2], (.cellA (by rfl) ag50 (H.c 0) (by rfl) (.tmp (by rfl) rfl)), rfl, H.none_⟩
 have hm := cond_f hb hm
 refine W_skip ?_
 refine W_seq ?_
 refine W_draw [.free 0, .free 1, .free 2, .take 3, .take 4, .tail 5, .free 6, .free 7, .free 8, .free 9, .tail 10, .free 11] (fun wS => S26_5 ok w wS b5 b59 v57 b62 v89 b96 v94) [5, 10] [0, 1, 2, 6, 7, 8, 9, 11] mixed0 (by kernel_rfl) (by kernel_rfl) (by kernel_rfl) (by rfl) (by exact H.drew) ?_
 obtain ⟨w100, hW⟩ : ∃ W : World, W = { w98 with drawn := w98.drawn + 1 } := ⟨_, rfl⟩
 rw [← hW]
 have H : S26_5 ok w w100 b5 b59 v57 b62 v89 b96 v94 := by rw [hW]; exact H.drew
 clear hW
 refine PF (a := xm (ii 0)) (b := ?_)
 refine PF (a := xm (ii 0)) (b := ?_)
 refine PF (a := xI ar110 sz109) (b := ?_)
 refine PT' (a := fun H => xA 0 [ii v89.1.Low, ii v89.1.High] ag109 (H.c 2)) (b := ?_)
 refine PT' (a := fun H => xA 0 [ii v94.1.Low, ii v94.1.High] ag109 (H.c 3)) (b := ?_)
 obtain ⟨v102, hv101, hm⟩ := bind_some hm
 refine PL (a := OC (xc [.agg #[ii v89.1.Low, ii v89.1.High], .agg #[ii v94.1.Low, ii v94.1.High]] (cf40 _ _)) (c40 okT K w100 v89.1 v94.1  v102 hv101) ?_)
 rintro e w103 ⟨rfl, H2⟩
 have H : S26_5 ok w w103 b5 b59 v57 b62 v89 b96 v94 := H.below H2.base
 clear H2
 refine ⟨_, rfl, ?_⟩
 show PR _ _ _ _ _ _ _ _
 refine PF (a := xm (tup [.agg (L26_11 v102).toArray, ii v102.2])) (b := ?_)
 refine PF (a := xe (.agg (L26_11 v102).toArray)) (b := ?_)
 refine PF (a := xe (ii v102.2)) (b := ?_)
 refine PF (a := xI ar110 sz109) (b := ?_)
 refine PL (a := OS 2 0 (L26_11 v102) sz109 H (fun w104 (H : S26_5 ok w w104 b5 b59 v57 b62 v102 b96 v94) => ?_))
 refine PF (a := xa (ii v102.2)) (b := ?_)
 refine PR_nil ?_
 refine Wr ?_
 refine RL_p (xm (ii v102.2)) ?_
 refine RL_p (xN) ?_
 refine Wc (fun hb => ?_) (fun hb => ?_)
 ·have hm := cond_t hb hm
  refine W_seq ?_
  have H : S26_2 ok w w104 b5 := (H.takeL 1)
  refine W_region ?_
  refine RL_p (x_build (vs := []) (cs := L26_2) (by rfl) (by kernel_rfl)) ?_
  refine RL_p (xm (ii v102.2)) ?_
  refine RL_cons (OS 0 0 L26_2 sz50 H (fun w105 (H : S26_2 ok w w105 b5) => ?_))
  refine RL_p (xa (ii v102.2)) ?_
  refine W_ret ?_
  obtain rfl := Option.some.inj hm
  exact ⟨[.agg L26_2.toArray, ii v102.2], (.cellA (by rfl) ag50 (H.c 0) (by rfl) (.tmp (by rfl) rfl)), rfl, H.none_⟩
 have hm := cond_f hb hm
 refine W_skip ?_
 refine W_region ?_
 refine RL_p (xp 3) ?_
 refine RL_p (xm (ii 3)) ?_
 refine WU_succ ?_
 refine Wr ?_
 refine RL_p (xL) ?_
 refine W_seq ?_
 refine Wf ?_
 refine W_exit ?_
 refine Wr ?_
 refine RL_p (xa (ii 0)) ?_
 refine Wr ?_
 refine RL_p (xm (ii 0)) ?_
 refine RL_p (xm (ii 0)) ?_
 refine RL_p (xI ar110 sz109) ?_
 refine RL_p (xA 0 (L26_11 v102) ag109 (H.c 2)) ?_
 obtain ⟨v107, hv106, hm⟩ := bind_some hm
 refine RL_cons (OC (xc [.agg (L26_11 v102).toArray, ii 256] (cf41 _ _)) (c41 okT K w104 v102.1 256  v107 hv106) ?_)
 rintro e w108 ⟨rfl, H2⟩
 have H : S26_5 ok w w108 b5 b59 v57 b62 v102 b96 v94 := H.below H2.base
 clear H2
 refine ⟨_, rfl, ?_⟩
 refine RL_p (xm (tup [.agg (L26_11 v107).toArray, ii v107.2])) ?_
 refine RL_p (xe (.agg (L26_11 v107).toArray)) ?_
 refine RL_p (xe (ii v107.2)) ?_
 refine RL_p (xI ar110 sz109) ?_
 refine RL_cons (OS 2 0 (L26_11 v107) sz109 H (fun w109 (H : S26_5 ok w w109 b5 b59 v57 b62 v107 b96 v94) => ?_))
 refine RL_p (xa (ii v107.2)) ?_
 refine Wr ?_
 refine RL_p (xm (ii v107.2)) ?_
 refine RL_p (xN) ?_
 refine Wc (fun hb => ?_) (fun hb => ?_)
 ·have hm := cond_t hb hm
  refine W_seq ?_
  have H : S26_2 ok w w109 b5 := (H.takeL 1)
  refine W_region ?_
  refine RL_p (x_build (vs := []) (cs := L26_2) (by rfl) (by kernel_rfl)) ?_
  refine RL_p (xm (ii v107.2)) ?_
  refine RL_cons (OS 0 0 L26_2 sz50 H (fun w110 (H : S26_2 ok w w110 b5) => ?_))
  refine RL_p (xa (ii v107.2)) ?_
  refine W_ret ?_
  obtain rfl := Option.some.inj hm
  exact ⟨[.agg L26_2.toArray, ii v107.2], (.cellA (by rfl) ag50 (H.c 0) (by rfl) (.tmp (by rfl) rfl)), rfl, H.none_⟩
 have hm := cond_f hb hm
 refine W_skip ?_
 refine W_region ?_
 refine RL_p (xp 1) ?_
 refine RL_p (xm (ii 1)) ?_
 refine WU_succ ?_
 refine Wr ?_
 refine RL_p (xL) ?_
 refine W_seq ?_
 refine Wt ?_
 refine W_skip ?_
 refine W_seq ?_
 refine W_block ?_
 refine Wr ?_
 refine RL_p (xm (ii 1)) ?_
 refine RL_p (xJ (L26_4 a0) ar29 ag28) ?_
 refine RL_cons (OA ze28 H (fun w112 b111 (H : Sep ok w w112 [.blk b5 50 L26_2, .blk b59 110 (L26_6 v57), .blk b62 110 (L26_8 v107), .blk b96 109 [ii v94.1.Low, ii v94.1.High], .blk b111 28 [ii 0, ii 0, ii 0]] []) => ?_))
 refine RL_p (xa (ii 1)) ?_
 refine RL_cons (OS 4 0 (L26_4 a0) sz28 H (fun w113 (H : Sep ok w w113 [.blk b5 50 L26_2, .blk b59 110 (L26_6 v57), .blk b62 110 (L26_8 v107), .blk b96 109 [ii v94.1.Low, ii v94.1.High], .blk b111 28 (L26_4 a0)] []) => ?_))
 refine W_seq ?_
 refine Wr ?_
 refine RL_p (xA 0 (L26_4 a0) ag28 (H.c 4)) ?_
 refine RL_p (xm (ii 0)) ?_
 refine W_block ?_
 refine W_unroll 40 ?_
 refine WU_succ ?_
 refine W_seq ?_
 have H : S26_7 ok w w113 b5 b59 v57 b62 v107 := (H.takeL 3)
 refine W_region ?_
 refine RL_p (xL) ?_
 refine W_seq ?_
 refine Wt ?_
 refine W_skip ?_
 refine W_seq ?_
 refine W_block ?_
 refine Wr ?_
 refine RL_p (xm (ii 0)) ?_
 refine RL_p (xi ar28 sz3 sc3) ?_
 refine RL_p (xa (ii 0)) ?_
 refine RL_p (xa (ii a0.a1.a0)) ?_
 refine Wr ?_
 refine RL_p (xm (ii 0)) ?_
 refine RL_p (xI ar110 sz109) ?_
 refine RL_p (xA 0 (L26_7 v57) ag109 (H.c 1)) ?_
 refine RL_p (xm (ii a0.a1.a0)) ?_
 obtain ⟨v115, hv114, hm⟩ := bind_some hm
 refine RL_cons (OC (xc [.agg (L26_7 v57).toArray, ii a0.a1.a0] (cf39 _ _)) (c39 okT K w113 v57.a0 a0.a1.a0  v115 hv114) ?_)
 rintro e w116 ⟨rfl, H2⟩
 have H : S26_7 ok w w116 b5 b59 v57 b62 v107 := H.below H2.base
 clear H2
 refine ⟨_, rfl, ?_⟩
 refine RL_p (xm (tup [.agg (L26_11 v115).toArray, ii v115.2])) ?_
 refine RL_p (xe (.agg (L26_11 v115).toArray)) ?_
 refine RL_p (xe (ii v115.2)) ?_
 refine RL_cons (OA ze109 H (fun w118 b117 (H : Sep ok w w118 [.blk b5 50 L26_2, .blk b59 110 (L26_6 v57), .blk b62 110 (L26_8 v107), .blk b117 109 [ii 0, ii 0]] []) => ?_))
 refine RL_cons (OS 3 0 (L26_11 v115) sz109 H (fun w119 (H : S26_8 ok w w119 b5 b59 v57 b62 v107 b117 v115) => ?_))
 refine RL_p (xa (ii v115.2)) ?_
 refine W_seq ?_
 refine Wr ?_
 refine RL_p (xm (ii v115.2)) ?_
 refine RL_p (xN) ?_
 refine Wc (fun hb => ?_) (fun hb => ?_)
 ·have hm := cond_t hb hm
  refine W_seq ?_
  have H : S26_2 ok w w119 b5 := (H.takeL 1)
  refine W_region ?_
  refine RL_p (x_build (vs := []) (cs := L26_2) (by rfl) (by kernel_rfl)) ?_
  refine RL_p (xm (ii v115.2)) ?_
  refine RL_cons (OS 0 0 L26_2 sz50 H (fun w120 (H : S26_2 ok w w120 b5) => ?_))
  refine RL_p (xa (ii v115.2)) ?_
  refine W_ret ?_
  obtain rfl := Option.some.inj hm
  exact ⟨[.agg L26_2.toArray, ii v115.2], (.cellA (by rfl) ag50 (H.c 0) (by rfl) (.tmp (by rfl) rfl)), rfl, H.none_⟩
 have hm := cond_f hb hm
 refine W_skip ?_
 refine W_seq ?_
 refine W_draw [.free 0, .free 1, .free 2, .take 3, .take 4, .tail 5, .free 6, .free 7, .free 8, .free 9, .tail 10, .free 11] (fun wS => S26_8 ok w wS b5 b59 v57 b62 v107 b117 v115) [5, 10] [0, 1, 2, 6, 7, 8, 9, 11] mixed0 (by kernel_rfl) (by kernel_rfl) (by kernel_rfl) (by rfl) (by exact H.drew) ?_
 obtain ⟨w121, hW⟩ : ∃ W : World, W = { w119 with drawn := w119.drawn + 1 } := ⟨_, rfl⟩
 rw [← hW]
 have H : S26_8 ok w w121 b5 b59 v57 b62 v107 b117 v115 := by rw [hW]; exact H.drew
 clear hW
 refine PF (a := xm (ii 1)) (b := ?_)
 refine PF (a := xm (ii 1)) (b := ?_)
 refine PF (a := xI ar110 sz109) (b := ?_)
 refine PT' (a := fun H => xA 2 [ii 0, ii 0] ag109 (H.c 2)) (b := ?_)
 refine PT' (a := fun H => xA 0 (L26_11 v115) ag109 (H.c 3)) (b := ?_)
 obtain ⟨v123, hv122, hm⟩ := bind_some hm
 refine PL (a := OC (xc [.agg #[ii 0, ii 0], .agg (L26_11 v115).toArray] (cf40 _ _)) (c40 okT K w121 (⟨0, 0⟩ : S_Span) v115.1  v123 hv122) ?_)
 rintro e w124 ⟨rfl, H2⟩
 have H : S26_8 ok w w124 b5 b59 v57 b62 v107 b117 v115 := H.below H2.base
 clear H2
 refine ⟨_, rfl, ?_⟩
 show PR _ _ _ _ _ _ _ _
 refine PF (a := xm (tup [.agg (L26_11 v123).toArray, ii v123.2])) (b := ?_)
 refine PF (a := xe (.agg (L26_11 v123).toArray)) (b := ?_)
 refine PF (a := xe (ii v123.2)) (b := ?_)
 refine PF (a := xI ar110 sz109) (b := ?_)
 refine PL (a := OS 2 2 (L26_11 v123) sz109 H (fun w125 (H : Sep ok w w125 [.blk b5 50 L26_2, .blk b59 110 (L26_6 v57), .blk b62 110 (L26_12 v107 v123), .blk b117 109 (L26_11 v115)] []) => ?_))
 refine PF (a := xa (ii v123.2)) (b := ?_)
 refine PR_nil ?_
 refine Wr ?_
 refine RL_p (xm (ii v123.2)) ?_
 refine RL_p (xN) ?_
 refine Wc (fun hb => ?_) (fun hb => ?_)
 ·have hm := cond_t hb hm
  refine W_seq ?_
  have H : S26_2 ok w w125 b5 := (H.takeL 1)
  refine W_region ?_
  refine RL_p (x_build (vs := []) (cs := L26_2) (by rfl) (by kernel_rfl)) ?_
  refine RL_p (xm (ii v123.2)) ?_
  refine RL_cons (OS 0 0 L26_2 sz50 H (fun w126 (H : S26_2 ok w w126 b5) => ?_))
  refine RL_p (xa (ii v123.2)) ?_
  refine W_ret ?_
  obtain rfl := Option.some.inj hm
  exact ⟨[.agg L26_2.toArray, ii v123.2], (.cellA (by rfl) ag50 (H.c 0) (by rfl) (.tmp (by rfl) rfl)), rfl, H.none_⟩
 have hm := cond_f hb hm
 refine W_skip ?_
 refine W_region ?_
 refine RL_p (xp 1) ?_
 refine RL_p (xm (ii 1)) ?_
 refine WU_succ ?_
 refine Wr ?_
 refine RL_p (xL) ?_
 refine W_seq ?_
 refine Wt ?_
 refine W_skip ?_
 refine W_seq ?_
 refine W_block ?_
 refine Wr ?_
 refine RL_p (xm (ii 1)) ?_
 refine RL_p (xi ar28 sz3 sc3) ?_
 refine RL_p (xa (ii 1)) ?_
 refine RL_p (xa (ii a0.a1.a1)) ?_
 refine Wr ?_
 refine RL_p (xm (ii 1)) ?_
 refine RL_p (xI ar110 sz109) ?_
 refine RL_p (xA 2 (L26_9 v57) ag109 (H.c 1)) ?_
 refine RL_p (xm (ii a0.a1.a1)) ?_
 obtain ⟨v128, hv127, hm⟩ := bind_some hm
 refine RL_cons (OC (xc [.agg (L26_9 v57).toArray, ii a0.a1.a1] (cf39 _ _)) (c39 okT K w125 v57.a1 a0.a1.a1  v128 hv127) ?_)
 rintro e w129 ⟨rfl, H2⟩
 have H : Sep ok w w129 [.blk b5 50 L26_2, .blk b59 110 (L26_6 v57), .blk b62 110 (L26_12 v107 v123), .blk b117 109 (L26_11 v115)] [] := H.below H2.base
 clear H2
 refine ⟨_, rfl, ?_⟩
 refine RL_p (xm (tup [.agg (L26_11 v128).toArray, ii v128.2])) ?_
 refine RL_p (xe (.agg (L26_11 v128).toArray)) ?_
 refine RL_p (xe (ii v128.2)) ?_
 refine RL_cons (OA ze109 H (fun w131 b130 (H : Sep ok w w131 [.blk b5 50 L26_2, .blk b59 110 (L26_6 v57), .blk b62 110 (L26_12 v107 v123), .blk b117 109 (L26_11 v115), .blk b130 109 [ii 0, ii 0]] []) => ?_))
 refine RL_cons (OS 4 0 (L26_11 v128) sz109 H (fun w132 (H : S26_9 ok w w132 b5 b59 v57 b62 v107 v123 b117 v115 b130 v128) => ?_))
 refine RL_p (xa (ii v128.2)) ?_
 refine W_seq ?_
 refine Wr ?_
 refine RL_p (xm (ii v128.2)) ?_
 refine RL_p (xN) ?_
 refine Wc (fun hb => ?_) (fun hb => ?_)
 ·have hm := cond_t hb hm
  refine W_seq ?_
  have H : S26_2 ok w w132 b5 := (H.takeL 1)
  refine W_region ?_
  refine RL_p (x_build (vs := []) (cs := L26_2) (by rfl) (by kernel_rfl)) ?_
  refine RL_p (xm (ii v128.2)) ?_
  refine RL_cons (OS 0 0 L26_2 sz50 H (fun w133 (H : S26_2 ok w w133 b5) => ?_))
  refine RL_p (xa (ii v128.2)) ?_
  refine W_ret ?_
  obtain rfl := Option.some.inj hm
  exact ⟨[.agg L26_2.toArray, ii v128.2], (.cellA (by rfl) ag50 (H.c 0) (by rfl) (.tmp (by rfl) rfl)), rfl, H.none_⟩
 have hm := cond_f hb hm
 refine W_skip ?_
 refine W_seq ?_
 refine W_draw [.free 0, .free 1, .free 2, .take 3, .take 4, .tail 5, .free 6, .free 7, .free 8, .free 9, .tail 10, .free 11] (fun wS => S26_9 ok w wS b5 b59 v57 b62 v107 v123 b117 v115 b130 v128) [5, 10] [0, 1, 2, 6, 7, 8, 9, 11] mixed0 (by kernel_rfl) (by kernel_rfl) (by kernel_rfl) (by rfl) (by exact H.drew) ?_
 obtain ⟨w134, hW⟩ : ∃ W : World, W = { w132 with drawn := w132.drawn + 1 } := ⟨_, rfl⟩
 rw [← hW]
 have H : S26_9 ok w w134 b5 b59 v57 b62 v107 v123 b117 v115 b130 v128 := by rw [hW]; exact H.drew
 clear hW
 refine PF (a := xm (ii 1)) (b := ?_)
 refine PF (a := xm (ii 1)) (b := ?_)
 refine PF (a := xI ar110 sz109) (b := ?_)
 refine PT' (a := fun H => xA 2 (L26_11 v123) ag109 (H.c 2)) (b := ?_)
 refine PT' (a := fun H => xA 0 (L26_11 v128) ag109 (H.c 4)) (b := ?_)
 obtain ⟨v136, hv135, hm⟩ := bind_some hm
 refine PL (a := OC (xc [.agg (L26_11 v123).toArray, .agg (L26_11 v128).toArray] (cf40 _ _)) (c40 okT K w134 v123.1 v128.1  v136 hv135) ?_)
 rintro e w137 ⟨rfl, H2⟩
 have H : S26_9 ok w w137 b5 b59 v57 b62 v107 v123 b117 v115 b130 v128 := H.below H2.base
 clear H2
 refine ⟨_, rfl, ?_⟩
 show PR _ _ _ _ _ _ _ _
 refine PF (a := xm (tup [.agg (L26_11 v136).toArray, ii v136.2])) (b := ?_)
 refine PF (a := xe (.agg (L26_11 v136).toArray)) (b := ?_)
 refine PF (a := xe (ii v136.2)) (b := ?_)
 refine PF (a := xI ar110 sz109) (b := ?_)
 refine PL (a := OS 2 2 (L26_11 v136) sz109 H (fun w138 (H : S26_9 ok w w138 b5 b59 v57 b62 v107 v136 b117 v115 b130 v128) => ?_))
 refine PF (a := xa (ii v136.2)) (b := ?_)
 refine PR_nil ?_
 refine Wr ?_
 refine RL_p (xm (ii v136.2)) ?_
 refine RL_p (xN) ?_
 refine Wc (fun hb => ?_) (fun hb => ?_)
 ·have hm := cond_t hb hm
  refine W_seq ?_
  have H : S26_2 ok w w138 b5 := (H.takeL 1)
  refine W_region ?_
  refine RL_p (x_build (vs := []) (cs := L26_2) (by rfl) (by kernel_rfl)) ?_
  refine RL_p (xm (ii v136.2)) ?_
  refine RL_cons (OS 0 0 L26_2 sz50 H (fun w139 (H : S26_2 ok w w139 b5) => ?_))
  refine RL_p (xa (ii v136.2)) ?_
  refine W_ret ?_
  obtain rfl := Option.some.inj hm
  exact ⟨[.agg L26_2.toArray, ii v136.2], (.cellA (by rfl) ag50 (H.c 0) (by rfl) (.tmp (by rfl) rfl)), rfl, H.none_⟩
 have hm := cond_f hb hm
 refine W_skip ?_
 refine W_region ?_
 refine RL_p (xp 2) ?_
 refine RL_p (xm (ii 2)) ?_
 refine WU_succ ?_
 refine Wr ?_
 refine RL_p (xL) ?_
 refine W_seq ?_
 refine Wt ?_
 refine W_skip ?_
 refine W_seq ?_
 refine W_block ?_
 refine Wr ?_
 refine RL_p (xm (ii 2)) ?_
 refine RL_p (xi ar28 sz3 sc3) ?_
 refine RL_p (xa (ii 2)) ?_
 refine RL_p (xa (ii a0.a1.a2)) ?_
 refine Wr ?_
 refine RL_p (xm (ii 2)) ?_
 refine RL_p (xI ar110 sz109) ?_
 refine RL_p (xA 4 (L26_10 v57) ag109 (H.c 1)) ?_
 refine RL_p (xm (ii a0.a1.a2)) ?_
 obtain ⟨v141, hv140, hm⟩ := bind_some hm
 refine RL_cons (OC (xc [.agg (L26_10 v57).toArray, ii a0.a1.a2] (cf39 _ _)) (c39 okT K w138 v57.a2 a0.a1.a2  v141 hv140) ?_)
 rintro e w142 ⟨rfl, H2⟩
 have H : S26_9 ok w w142 b5 b59 v57 b62 v107 v136 b117 v115 b130 v128 := H.below H2.base
 clear H2
 refine ⟨_, rfl, ?_⟩
 refine RL_p (xm (tup [.agg (L26_11 v141).toArray, ii v141.2])) ?_
 refine RL_p (xe (.agg (L26_11 v141).toArray)) ?_
 refine RL_p (xe (ii v141.2)) ?_
 refine RL_cons (OA ze109 H (fun w144 b143 (H : Sep ok w w144 [.blk b5 50 L26_2, .blk b59 110 (L26_6 v57), .blk b62 110 (L26_12 v107 v136), .blk b117 109 (L26_11 v115), .blk b130 109 (L26_11 v128), .blk b143 109 [ii 0, ii 0]] []) => ?_))
 refine RL_cons (OS 5 0 (L26_11 v141) sz109 H (fun w145 (H : S26_10 ok w w145 b5 b59 v57 b62 v107 v136 b117 v115 b130 v128 b143 v141) => ?_))
 refine RL_p (xa (ii v141.2)) ?_
 refine W_seq ?_
 refine Wr ?_
 refine RL_p (xm (ii v141.2)) ?_
 refine RL_p (xN) ?_
 refine Wc (fun hb => ?_) (fun hb => ?_)
 ·have hm := cond_t hb hm
  refine W_seq ?_
  have H : S26_2 ok w w145 b5 := (H.takeL 1)
  refine W_region ?_
  refine RL_p (x_build (vs := []) (cs := L26_2) (by rfl) (by kernel_rfl)) ?_
  refine RL_p (xm (ii v141.2)) ?_
  refine RL_cons (OS 0 0 L26_2 sz50 H (fun w146 (H : S26_2 ok w w146 b5) => ?_))
  refine RL_p (xa (ii v141.2)) ?_
  refine W_ret ?_
  obtain rfl := Option.some.inj hm
  exact ⟨[.agg L26_2.toArray, ii v141.2], (.cellA (by rfl) ag50 (H.c 0) (by rfl) (.tmp (by rfl) rfl)), rfl, H.none_⟩
 have hm := cond_f hb hm
 refine W_skip ?_
 refine W_seq ?_
 refine W_draw [.free 0, .free 1, .free 2, .take 3, .take 4, .tail 5, .free 6, .free 7, .free 8, .free 9, .tail 10, .free 11] (fun wS => S26_10 ok w wS b5 b59 v57 b62 v107 v136 b117 v115 b130 v128 b143 v141) [5, 10] [0, 1, 2, 6, 7, 8, 9, 11] mixed0 (by kernel_rfl) (by kernel_rfl) (by kernel_rfl) (by rfl) (by exact H.drew) ?_
 obtain ⟨w147, hW⟩ : ∃ W : World, W = { w145 with drawn := w145.drawn + 1 } := ⟨_, rfl⟩
 rw [← hW]
 have H : S26_10 ok w w147 b5 b59 v57 b62 v107 v136 b117 v115 b130 v128 b143 v141 := by rw [hW]; exact H.drew
 clear hW
 refine PF (a := xm (ii 1)) (b := ?_)
 refine PF (a := xm (ii 1)) (b := ?_)
 refine PF (a := xI ar110 sz109) (b := ?_)
 refine PT' (a := fun H => xA 2 (L26_11 v136) ag109 (H.c 2)) (b := ?_)
 refine PT' (a := fun H => xA 0 (L26_11 v141) ag109 (H.c 5)) (b := ?_)
 obtain ⟨v149, hv148, hm⟩ := bind_some hm
 refine PL (a := OC (xc [.agg (L26_11 v136).toArray, .agg (L26_11 v141).toArray] (cf40 _ _)) (c40 okT K w147 v136.1 v141.1  v149 hv148) ?_)
 rintro e w150 ⟨rfl, H2⟩
 have H : S26_10 ok w w150 b5 b59 v57 b62 v107 v136 b117 v115 b130 v128 b143 v141 := H.below H2.base
 clear H2
 refine ⟨_, rfl, ?_⟩
 show PR _ _ _ _ _ _ _ _
 refine PF (a := xm (tup [.agg (L26_11 v149).toArray, ii v149.2])) (b := ?_)
 refine PF (a := xe (.agg (L26_11 v149).toArray)) (b := ?_)
 refine PF (a := xe (ii v149.2)) (b := ?_)
 refine PF (a := xI ar110 sz109) (b := ?_)
 refine PL (a := OS 2 2 (L26_11 v149) sz109 H (fun w151 (H : S26_10 ok w w151 b5 b59 v57 b62 v107 v149 b117 v115 b130 v128 b143 v141) => ?_))
 refine PF (a := xa (ii v149.2)) (b := ?_)
 refine PR_nil ?_
 refine W_seq ?_
 have H : S26_11 ok w w151 b5 b59 v57 b62 v107 v149 := (H.takeL 3)
 refine W_region ?_
 refine RL_p (xm (ii v149.2)) ?_
 refine RL_p (xN) ?_
 refine Wc (fun hb => ?_) (fun hb => ?_)
 ·have hm := cond_t hb hm
  refine Wr ?_
  refine RL_p (x_build (vs := []) (cs := L26_2) (by rfl) (by kernel_rfl)) ?_
  refine RL_p (xm (ii v149.2)) ?_
  refine RL_cons (OS 0 0 L26_2 sz50 H (fun w152 (H : S26_11 ok w w152 b5 b59 v57 b62 v107 v149) => ?_))
  refine RL_p (xa (ii v149.2)) ?_
  refine W_ret ?_
  obtain rfl := Option.some.inj hm
  exact ⟨[.agg L26_2.toArray, ii v149.2], (.cellA (by rfl) ag50 (H.c 0) (by rfl) (.tmp (by rfl) rfl)), rfl, H.none_⟩
 have hm := cond_f hb hm
 refine W_skip ?_
 refine W_region ?_
 refine RL_p (xp 3) ?_
 refine RL_p (xm (ii 3)) ?_
 refine WU_succ ?_
 refine Wr ?_
 refine RL_p (xL) ?_
 refine W_seq ?_
 refine Wf ?_
 refine W_exit ?_
 refine Wr ?_
 refine RL_p (xa (ii 0)) ?_
 refine Wr ?_
 refine RL_p (xm (ii 1)) ?_
 refine RL_p (xm (ii 1)) ?_
 refine RL_p (xI ar110 sz109) ?_
 refine RL_p (xA 2 (L26_11 v149) ag109 (H.c 2)) ?_
 obtain ⟨v154, hv153, hm⟩ := bind_some hm
 refine RL_cons (OC (xc [.agg (L26_11 v149).toArray, ii 256] (cf41 _ _)) (c41 okT K w151 v149.1 256  v154 hv153) ?_)
 rintro e w155 ⟨rfl, H2⟩
 have H : S26_11 ok w w155 b5 b59 v57 b62 v107 v149 := H.below H2.base
 clear H2
 refine ⟨_, rfl, ?_⟩
 refine RL_p (xm (tup [.agg (L26_11 v154).toArray, ii v154.2])) ?_
 refine RL_p (xe (.agg (L26_11 v154).toArray)) ?_
 refine RL_p (xe (ii v154.2)) ?_
 refine RL_p (xI ar110 sz109) ?_
 refine RL_cons (OS 2 2 (L26_11 v154) sz109 H (fun w156 (H : S26_11 ok w w156 b5 b59 v57 b62 v107 v154) => ?_))
 refine RL_p (xa (ii v154.2)) ?_
 refine Wr ?_
 refine RL_p (xm (ii v154.2)) ?_
 refine RL_p (xN) ?_
 refine Wc (fun hb => ?_) (fun hb => ?_)
 ·have hm := cond_t hb hm
  refine Wr ?_
  refine RL_p (x_build (vs := []) (cs := L26_2) (by rfl) (by kernel_rfl)) ?_
  refine RL_p (xm (ii v154.2)) ?_
  refine RL_cons (OS 0 0 L26_2 sz50 H (fun w157 (H : S26_11 ok w w157 b5 b59 v57 b62 v107 v154) => ?_))
  refine RL_p (xa (ii v154.2)) ?_
  refine W_ret ?_
  obtain rfl := Option.some.inj hm
  exact ⟨[.agg L26_2.toArray, ii v154.2], (.cellA (by rfl) ag50 (H.c 0) (by rfl) (.tmp (by rfl) rfl)), rfl, H.none_⟩
 have hm := cond_f hb hm
 refine W_skip ?_
 refine W_region ?_
 refine RL_p (xp 2) ?_
 refine RL_p (xm (ii 2)) ?_
 refine WU_succ ?_
 refine Wr ?_
 refine RL_p (xL) ?_
 refine W_seq ?_
 refine Wt ?_
 refine W_skip ?_
 refine W_seq ?_
 refine W_block ?_
 refine Wr ?_
 refine RL_p (xm (ii 2)) ?_
 refine RL_p (xJ (L26_5 a0) ar29 ag28) ?_
 refine RL_cons (OA ze28 H (fun w159 b158 (H : Sep ok w w159 [.blk b5 50 L26_2, .blk b59 110 (L26_6 v57), .blk b62 110 (L26_12 v107 v154), .blk b158 28 [ii 0, ii 0, ii 0]] []) => ?_))
 refine RL_p (xa (ii 2)) ?_
 refine RL_cons (OS 3 0 (L26_5 a0) sz28 H (fun w160 (H : Sep ok w w160 [.blk b5 50 L26_2, .blk b59 110 (L26_6 v57), .blk b62 110 (L26_12 v107 v154), .blk b158 28 (L26_5 a0)] []) => ?_))
 refine W_seq ?_
 refine Wr ?_
 refine RL_p (xA 0 (L26_5 a0) ag28 (H.c 3)) ?_
 refine RL_p (xm (ii 0)) ?_
 refine W_block ?_
 refine W_unroll 40 ?_
 refine WU_succ ?_
 refine Wr ?_
 refine RL_p (xL) ?_
 refine W_seq ?_
 refine Wt ?_
 refine W_skip ?_
 refine W_seq ?_
 refine W_block ?_
 refine Wr ?_
 refine RL_p (xm (ii 0)) ?_
 refine RL_p (xi ar28 sz3 sc3) ?_
 refine RL_p (xa (ii 0)) ?_
 refine RL_p (xa (ii a0.a2.a0)) ?_
 refine Wr ?_
 refine RL_p (xm (ii 0)) ?_
 refine RL_p (xI ar110 sz109) ?_
 refine RL_p (xA 0 (L26_7 v57) ag109 (H.c 1)) ?_
 refine RL_p (xm (ii a0.a2.a0)) ?_
 obtain ⟨v162, hv161, hm⟩ := bind_some hm
 refine RL_cons (OC (xc [.agg (L26_7 v57).toArray, ii a0.a2.a0] (cf39 _ _)) (c39 okT K w160 v57.a0 a0.a2.a0  v162 hv161) ?_)
 rintro e w163 ⟨rfl, H2⟩
 have H : Sep ok w w163 [.blk b5 50 L26_2, .blk b59 110 (L26_6 v57), .blk b62 110 (L26_12 v107 v154), .blk b158 28 (L26_5 a0)] [] := H.below H2.base
 clear H2
 refine ⟨_, rfl, ?_⟩
 refine RL_p (xm (tup [.agg (L26_11 v162).toArray, ii v162.2])) ?_
 refine RL_p (xe (.agg (L26_11 v162).toArray)) ?_
 refine RL_p (xe (ii v162.2)) ?_
 refine RL_cons (OA ze109 H (fun w165 b164 (H : Sep ok w w165 [.blk b5 50 L26_2, .blk b59 110 (L26_6 v57), .blk b62 110 (L26_12 v107 v154), .blk b158 28 (L26_5 a0), .blk b164 109 [ii 0, ii 0]] []) => ?_))
 refine RL_cons (OS 4 0 (L26_11 v162) sz109 H (fun w166 (H : S26_12 ok w w166 b5 b59 v57 b62 v107 v154 b158 a0 b164 v162) => ?_))
 refine RL_p (xa (ii v162.2)) ?_
 refine W_seq ?_
 refine Wr ?_
 refine RL_p (xm (ii v162.2)) ?_
 refine RL_p (xN) ?_
 refine Wc (fun hb => ?_) (fun hb => ?_)
 ·have hm := cond_t hb hm
  refine W_seq ?_
  have H : S26_2 ok w w166 b5 := (H.takeL 1)
  refine W_region ?_
  refine RL_p (x_build (vs := []) (cs := L26_2) (by rfl) (by kernel_rfl)) ?_
  refine RL_p (xm (ii v162.2)) ?_
  refine RL_cons (OS 0 0 L26_2 sz50 H (fun w167 (H : S26_2 ok w w167 b5) => ?_))
  refine RL_p (xa (ii v162.2)) ?_
  refine W_ret ?_
  obtain rfl := Option.some.inj hm
  exact ⟨[.agg L26_2.toArray, ii v162.2], (.cellA (by rfl) ag50 (H.c 0) (by rfl) (.tmp (by rfl) rfl)), rfl, H.none_⟩
 have hm := cond_f hb hm
 refine W_skip ?_
 refine W_seq ?_
 refine W_draw [.free 0, .free 1, .free 2, .take 3, .take 4, .tail 5, .free 6, .free 7, .free 8, .free 9, .tail 10, .free 11] (fun wS => S26_12 ok w wS b5 b59 v57 b62 v107 v154 b158 a0 b164 v162) [5, 10] [0, 1, 2, 6, 7, 8, 9, 11] mixed0 (by kernel_rfl) (by kernel_rfl) (by kernel_rfl) (by rfl) (by exact H.drew) ?_
 obtain ⟨w168, hW⟩ : ∃ W : World, W = { w166 with drawn := w166.drawn + 1 } := ⟨_, rfl⟩
 rw [← hW]
 have H : S26_12 ok w w168 b5 b59 v57 b62 v107 v154 b158 a0 b164 v162 := by rw [hW]; exact H.drew
 clear hW
 refine PF (a := xm (ii 2)) (b := ?_)
 refine PF (a := xm (ii 2)) (b := ?_)
 refine PF (a := xI ar110 sz109) (b := ?_)
 refine PT' (a := fun H => xA 4 [ii 0, ii 0] ag109 (H.c 2)) (b := ?_)
 refine PT' (a := fun H => xA 0 (L26_11 v162) ag109 (H.c 4)) (b := ?_)
 obtain ⟨v170, hv169, hm⟩ := bind_some hm
 refine PL (a := OC (xc [.agg #[ii 0, ii 0], .agg (L26_11 v162).toArray] (cf40 _ _)) (c40 okT K w168 (⟨0, 0⟩ : S_Span) v162.1  v170 hv169) ?_)
 rintro e w171 ⟨rfl, H2⟩
 have H : S26_12 ok w w171 b5 b59 v57 b62 v107 v154 b158 a0 b164 v162 := H.below H2.base
 clear H2
 refine ⟨_, rfl, ?_⟩
 show PR _ _ _ _ _ _ _ _
 refine PF (a := xm (tup [.agg (L26_11 v170).toArray, ii v170.2])) (b := ?_)
 refine PF (a := xe (.agg (L26_11 v170).toArray)) (b := ?_)
 refine PF (a := xe (ii v170.2)) (b := ?_)
 refine PF (a := xI ar110 sz109) (b := ?_)
 refine PL (a := OS 2 4 (L26_11 v170) sz109 H (fun w172 (H : Sep ok w w172 [.blk b5 50 L26_2, .blk b59 110 (L26_6 v57), .blk b62 110 (L26_13 v107 v154 v170), .blk b158 28 (L26_5 a0), .blk b164 109 (L26_11 v162)] []) => ?_))
 refine PF (a := xa (ii v170.2)) (b := ?_)
 refine PR_nil ?_
 refine Wr ?_
 refine RL_p (xm (ii v170.2)) ?_
 refine RL_p (xN) ?_
 refine Wc (fun hb => ?_) (fun hb => ?_)
 ·have hm := cond_t hb hm
  refine W_seq ?_
  have H : S26_2 ok w w172 b5 := (H.takeL 1)
  refine W_region ?_
  refine RL_p (x_build (vs := []) (cs := L26_2) (by rfl) (by kernel_rfl)) ?_
  refine RL_p (xm (ii v170.2)) ?_
  refine RL_cons (OS 0 0 L26_2 sz50 H (fun w173 (H : S26_2 ok w w173 b5) => ?_))
  refine RL_p (xa (ii v170.2)) ?_
  refine W_ret ?_
  obtain rfl := Option.some.inj hm
  exact ⟨[.agg L26_2.toArray, ii v170.2], (.cellA (by rfl) ag50 (H.c 0) (by rfl) (.tmp (by rfl) rfl)), rfl, H.none_⟩
 have hm := cond_f hb hm
 refine W_skip ?_
 refine W_region ?_
 refine RL_p (xp 1) ?_
 refine RL_p (xm (ii 1)) ?_
 refine WU_succ ?_
 refine Wr ?_
 refine RL_p (xL) ?_
 refine W_seq ?_
 refine Wt ?_
 refine W_skip ?_
 refine W_seq ?_
 refine W_block ?_
 refine Wr ?_
 refine RL_p (xm (ii 1)) ?_
 refine RL_p (xi ar28 sz3 sc3) ?_
 refine RL_p (xa (ii 1)) ?_
 refine RL_p (xa (ii a0.a2.a1)) ?_
 refine Wr ?_
 refine RL_p (xm (ii 1)) ?_
 refine RL_p (xI ar110 sz109) ?_
 refine RL_p (xA 2 (L26_9 v57) ag109 (H.c 1)) ?_
 refine RL_p (xm (ii a0.a2.a1)) ?_
 obtain ⟨v175, hv174, hm⟩ := bind_some hm
 refine RL_cons (OC (xc [.agg (L26_9 v57).toArray, ii a0.a2.a1] (cf39 _ _)) (c39 okT K w172 v57.a1 a0.a2.a1  v175 hv174) ?_)
 rintro e w176 ⟨rfl, H2⟩
 have H : Sep ok w w176 [.blk b5 50 L26_2, .blk b59 110 (L26_6 v57), .blk b62 110 (L26_13 v107 v154 v170), .blk b158 28 (L26_5 a0), .blk b164 109 (L26_11 v162)] [] := H.below H2.base
 clear H2
 refine ⟨_, rfl, ?_⟩
 refine RL_p (xm (tup [.agg (L26_11 v175).toArray, ii v175.2])) ?_
 refine RL_p (xe (.agg (L26_11 v175).toArray)) ?_
 refine RL_p (xe (ii v175.2)) ?_
 refine RL_cons (OA ze109 H (fun w178 b177 (H : Sep ok w w178 [.blk b5 50 L26_2, .blk b59 110 (L26_6 v57), .blk b62 110 (L26_13 v107 v154 v170), .blk b158 28 (L26_5 a0), .blk b164 109 (L26_11 v162), .blk b177 109 [ii 0, ii 0]] []) => ?_))
 refine RL_cons (OS 5 0 (L26_11 v175) sz109 H (fun w179 (H : S26_13 ok w w179 b5 b59 v57 b62 v107 v154 v170 b158 a0 b164 v162 b177 v175) => ?_))
 refine RL_p (xa (ii v175.2)) ?_
 refine W_seq ?_
 refine Wr ?_
 refine RL_p (xm (ii v175.2)) ?_
 refine RL_p (xN) ?_
 refine Wc (fun hb => ?_) (fun hb => ?_)
 ·have hm := cond_t hb hm
  refine W_seq ?_
  have H : S26_2 ok w w179 b5 := (H.takeL 1)
  refine W_region ?_
  refine RL_p (x_build (vs := []) (cs := L26_2) (by rfl) (by kernel_rfl)) ?_
  refine RL_p (xm (ii v175.2)) ?_
  refine RL_cons (OS 0 0 L26_2 sz50 H (fun w180 (H : S26_2 ok w w180 b5) => ?_))
  refine RL_p (xa (ii v175.2)) ?_
  refine W_ret ?_
  obtain rfl := Option.some.inj hm
  exact ⟨[.agg L26_2.toArray, ii v175.2], (.cellA (by rfl) ag50 (H.c 0) (by rfl) (.tmp (by rfl) rfl)), rfl, H.none_⟩
 have hm := cond_f hb hm
 refine W_skip ?_
 refine W_seq ?_
 refine W_draw [.free 0, .free 1, .free 2, .take 3, .take 4, .tail 5, .free 6, .free 7, .free 8, .free 9, .tail 10, .free 11] (fun wS => S26_13 ok w wS b5 b59 v57 b62 v107 v154 v170 b158 a0 b164 v162 b177 v175) [5, 10] [0, 1, 2, 6, 7, 8, 9, 11] mixed0 (by kernel_rfl) (by kernel_rfl) (by kernel_rfl) (by rfl) (by exact H.drew) ?_
 obtain ⟨w181, hW⟩ : ∃ W : World, W = { w179 with drawn := w179.drawn + 1 } := ⟨_, rfl⟩
 rw [← hW]
 have H : S26_13 ok w w181 b5 b59 v57 b62 v107 v154 v170 b158 a0 b164 v162 b177 v175 := by rw [hW]; exact H.drew
 clear hW
 refine PF (a := xm (ii 2)) (b := ?_)
 refine PF (a := xm (ii 2)) (b := ?_)
 refine PF (a := xI ar110 sz109) (b := ?_)
 refine PT' (a := fun H => xA 4 (L26_11 v170) ag109 (H.c 2)) (b := ?_)
 refine PT' (a := fun H => xA 0 (L26_11 v175) ag109 (H.c 5)) (b := ?_)
 obtain ⟨v183, hv182, hm⟩ := bind_some hm
 refine PL (a := OC (xc [.agg (L26_11 v170).toArray, .agg (L26_11 v175).toArray] (cf40 _ _)) (c40 okT K w181 v170.1 v175.1  v183 hv182) ?_)
 rintro e w184 ⟨rfl, H2⟩
 have H : S26_13 ok w w184 b5 b59 v57 b62 v107 v154 v170 b158 a0 b164 v162 b177 v175 := H.below H2.base
 clear H2
 refine ⟨_, rfl, ?_⟩
 show PR _ _ _ _ _ _ _ _
 refine PF (a := xm (tup [.agg (L26_11 v183).toArray, ii v183.2])) (b := ?_)
 refine PF (a := xe (.agg (L26_11 v183).toArray)) (b := ?_)
 refine PF (a := xe (ii v183.2)) (b := ?_)
 refine PF (a := xI ar110 sz109) (b := ?_)
 refine PL (a := OS 2 4 (L26_11 v183) sz109 H (fun w185 (H : S26_13 ok w w185 b5 b59 v57 b62 v107 v154 v183 b158 a0 b164 v162 b177 v175) => ?_))
 refine PF (a := xa (ii v183.2)) (b := ?_)
 refine PR_nil ?_
 refine W_seq ?_
 have H : Sep ok w w185 [.blk b5 50 L26_2, .blk b59 110 (L26_6 v57), .blk b62 110 (L26_13 v107 v154 v183)] [] := (H.takeL 3)
 refine W_region ?_
 refine RL_p (xm (ii v183.2)) ?_
 refine RL_p (xN) ?_
 refine Wc (fun hb => ?_) (fun hb => ?_)
 ·have hm := cond_t hb hm
  refine W_seq ?_
  have H : S26_2 ok w w185 b5 := (H.takeL 1)
  refine W_region ?_
  refine RL_p (x_build (vs := []) (cs := L26_2) (by rfl) (by kernel_rfl)) ?_
  refine RL_p (xm (ii v183.2)) ?_
  refine RL_cons (OS 0 0 L26_2 sz50 H (fun w186 (H : S26_2 ok w w186 b5) => ?_))
  refine RL_p (xa (ii v183.2)) ?_
  refine W_ret ?_
  obtain rfl := Option.some.inj hm
  exact ⟨[.agg L26_2.toArray, ii v183.2], (.cellA (by rfl) ag50 (H.c 0) (by rfl) (.tmp (by rfl) rfl)), rfl, H.none_⟩
 have hm := cond_f hb hm
 refine W_skip ?_
 refine W_region ?_
 refine RL_p (xp 2) ?_
 refine RL_p (xm (ii 2)) ?_
 refine WU_succ ?_
 refine Wr ?_
 refine RL_p (xL) ?_
 refine W_seq ?_
 refine Wt ?_
 refine W_skip ?_
 refine W_seq ?_
 refine W_block ?_
 refine Wr ?_
 refine RL_p (xm (ii 2)) ?_
 refine RL_p (xi ar28 sz3 sc3) ?_
 refine RL_p (xa (ii 2)) ?_
 refine RL_p (xa (ii a0.a2.a2)) ?_
 refine Wr ?_
 refine RL_p (xm (ii 2)) ?_
 refine RL_p (xI ar110 sz109) ?_
 refine RL_p (xA 4 (L26_10 v57) ag109 (H.c 1)) ?_
 refine RL_p (xm (ii a0.a2.a2)) ?_
 obtain ⟨v188, hv187, hm⟩ := bind_some hm
 refine RL_cons (OC (xc [.agg (L26_10 v57).toArray, ii a0.a2.a2] (cf39 _ _)) (c39 okT K w185 v57.a2 a0.a2.a2  v188 hv187) ?_)
 rintro e w189 ⟨rfl, H2⟩
 have H : Sep ok w w189 [.blk b5 50 L26_2, .blk b59 110 (L26_6 v57), .blk b62 110 (L26_13 v107 v154 v183)] [] := H.below H2.base
 clear H2
 refine ⟨_, rfl, ?_⟩
 refine RL_p (xm (tup [.agg (L26_11 v188).toArray, ii v188.2])) ?_
 refine RL_p (xe (.agg (L26_11 v188).toArray)) ?_
 refine RL_p (xe (ii v188.2)) ?_
 refine RL_cons (OA ze109 H (fun w191 b190 (H : Sep ok w w191 [.blk b5 50 L26_2, .blk b59 110 (L26_6 v57), .blk b62 110 (L26_13 v107 v154 v183), .blk b190 109 [ii 0, ii 0]] []) => ?_))
 refine RL_cons (OS 3 0 (L26_11 v188) sz109 H (fun w192 (H : S26_14 ok w w192 b5 b59 v57 b62 v107 v154 v183 b190 v188) => ?_))
 refine RL_p (xa (ii v188.2)) ?_
 refine W_seq ?_
 refine Wr ?_
 refine RL_p (xm (ii v188.2)) ?_
 refine RL_p (xN) ?_
 refine Wc (fun hb => ?_) (fun hb => ?_)
 ·have hm := cond_t hb hm
  refine W_seq ?_
  have H : S26_2 ok w w192 b5 := (H.takeL 1)
  refine W_region ?_
  refine RL_p (x_build (vs := []) (cs := L26_2) (by rfl) (by kernel_rfl)) ?_
  refine RL_p (xm (ii v188.2)) ?_
  refine RL_cons (OS 0 0 L26_2 sz50 H (fun w193 (H : S26_2 ok w w193 b5) => ?_))
  refine RL_p (xa (ii v188.2)) ?_
  refine W_ret ?_
  obtain rfl := Option.some.inj hm
  exact ⟨[.agg L26_2.toArray, ii v188.2], (.cellA (by rfl) ag50 (H.c 0) (by rfl) (.tmp (by rfl) rfl)), rfl, H.none_⟩
 have hm := cond_f hb hm
 refine W_skip ?_
 refine W_seq ?_
 refine W_draw [.free 0, .free 1, .free 2, .take 3, .take 4, .tail 5, .free 6, .free 7, .free 8, .free 9, .tail 10, .free 11] (fun wS => S26_14 ok w wS b5 b59 v57 b62 v107 v154 v183 b190 v188) [5, 10] [0, 1, 2, 6, 7, 8, 9, 11] mixed0 (by kernel_rfl) (by kernel_rfl) (by kernel_rfl) (by rfl) (by exact H.drew) ?_
 obtain ⟨w194, hW⟩ : ∃ W : World, W = { w192 with drawn := w192.drawn + 1 } := ⟨_, rfl⟩
 rw [← hW]
 have H : S26_14 ok w w194 b5 b59 v57 b62 v107 v154 v183 b190 v188 := by rw [hW]; exact H.drew
 clear hW
 refine PF (a := xm (ii 2)) (b := ?_)
 refine PF (a := xm (ii 2)) (b := ?_)
 refine PF (a := xI ar110 sz109) (b := ?_)
 refine PT' (a := fun H => xA 4 (L26_11 v183) ag109 (H.c 2)) (b := ?_)
 refine PT' (a := fun H => xA 0 (L26_11 v188) ag109 (H.c 3)) (b := ?_)
 obtain ⟨v196, hv195, hm⟩ := bind_some hm
 refine PL (a := OC (xc [.agg (L26_11 v183).toArray, .agg (L26_11 v188).toArray] (cf40 _ _)) (c40 okT K w194 v183.1 v188.1  v196 hv195) ?_)
 rintro e w197 ⟨rfl, H2⟩
 have H : S26_14 ok w w197 b5 b59 v57 b62 v107 v154 v183 b190 v188 := H.below H2.base
 clear H2
 refine ⟨_, rfl, ?_⟩
 show PR _ _ _ _ _ _ _ _
 refine PF (a := xm (tup [.agg (L26_11 v196).toArray, ii v196.2])) (b := ?_)
 refine PF (a := xe (.agg (L26_11 v196).toArray)) (b := ?_)
 refine PF (a := xe (ii v196.2)) (b := ?_)
 refine PF (a := xI ar110 sz109) (b := ?_)
 refine PL (a := OS 2 4 (L26_11 v196) sz109 H (fun w198 (H : S26_14 ok w w198 b5 b59 v57 b62 v107 v154 v196 b190 v188) => ?_))
 refine PF (a := xa (ii v196.2)) (b := ?_)
 refine PR_nil ?_
 refine Wr ?_
 refine RL_p (xm (ii v196.2)) ?_
 refine RL_p (xN) ?_
 refine Wc (fun hb => ?_) (fun hb => ?_)
 ·have hm := cond_t hb hm
  refine W_seq ?_
  have H : S26_2 ok w w198 b5 := (H.takeL 1)
  refine W_region ?_
  refine RL_p (x_build (vs := []) (cs := L26_2) (by rfl) (by kernel_rfl)) ?_
  refine RL_p (xm (ii v196.2)) ?_
  refine RL_cons (OS 0 0 L26_2 sz50 H (fun w199 (H : S26_2 ok w w199 b5) => ?_))
  refine RL_p (xa (ii v196.2)) ?_
  refine W_ret ?_
  obtain rfl := Option.some.inj hm
  exact ⟨[.agg L26_2.toArray, ii v196.2], (.cellA (by rfl) ag50 (H.c 0) (by rfl) (.tmp (by rfl) rfl)), rfl, H.none_⟩
 have hm := cond_f hb hm
 refine W_skip ?_
 refine W_region ?_
 refine RL_p (xp 3) ?_
 refine RL_p (xm (ii 3)) ?_
 refine WU_succ ?_
 refine Wr ?_
 refine RL_p (xL) ?_
 refine W_seq ?_
 refine Wf ?_
 refine W_exit ?_
 refine Wr ?_
 refine RL_p (xa (ii 0)) ?_
 refine Wr ?_
 refine RL_p (xm (ii 2)) ?_
 refine RL_p (xm (ii 2)) ?_
 refine RL_p (xI ar110 sz109) ?_
 refine RL_p (xA 4 (L26_11 v196) ag109 (H.c 2)) ?_
 obtain ⟨v201, hv200, hm⟩ := bind_some hm
 refine RL_cons (OC (xc [.agg (L26_11 v196).toArray, ii 256] (cf41 _ _)) (c41 okT K w198 v196.1 256  v201 hv200) ?_)
 rintro e w202 ⟨rfl, H2⟩
 have H : S26_14 ok w w202 b5 b59 v57 b62 v107 v154 v196 b190 v188 := H.below H2.base
 clear H2
 refine ⟨_, rfl, ?_⟩
 refine RL_p (xm (tup [.agg (L26_11 v201).toArray, ii v201.2])) ?_
 refine RL_p (xe (.agg (L26_11 v201).toArray)) ?_
 refine RL_p (xe (ii v201.2)) ?_
 refine RL_p (xI ar110 sz109) ?_
 refine RL_cons (OS 2 4 (L26_11 v201) sz109 H (fun w203 (H : S26_14 ok w w203 b5 b59 v57 b62 v107 v154 v201 b190 v188) => ?_))
 refine RL_p (xa (ii v201.2)) ?_
 refine Wr ?_
 refine RL_p (xm (ii v201.2)) ?_
 refine RL_p (xN) ?_
 refine Wc (fun hb => ?_) (fun hb => ?_)
 ·have hm := cond_t hb hm
  refine W_seq ?_
  have H : S26_2 ok w w203 b5 := (H.takeL 1)
  refine W_region ?_
  refine RL_p (x_build (vs := []) (cs := L26_2) (by rfl) (by kernel_rfl)) ?_
  refine RL_p (xm (ii v201.2)) ?_
  refine RL_cons (OS 0 0 L26_2 sz50 H (fun w204 (H : S26_2 ok w w204 b5) => ?_))
  refine RL_p (xa (ii v201.2)) ?_
  refine W_ret ?_
  obtain rfl := Option.some.inj hm
  exact ⟨[.agg L26_2.toArray, ii v201.2], (.cellA (by rfl) ag50 (H.c 0) (by rfl) (.tmp (by rfl) rfl)), rfl, H.none_⟩
 have hm := cond_f hb hm
 refine W_skip ?_
 refine W_region ?_
 refine RL_p (xp 3) ?_
 refine RL_p (xm (ii 3)) ?_
 refine WU_succ ?_
 refine Wr ?_
 refine RL_p (xL) ?_
 refine W_seq ?_
 refine Wf ?_
 refine W_exit ?_
 refine Wr ?_
 refine RL_p (xA 0 (L26_13 v107 v154 v201) ag110 (H.c 2)) ?_
 obtain ⟨v206, hv205, hm⟩ := bind_some hm
 refine RL_cons (OC (xc [.agg (L26_13 v107 v154 v201).toArray] (cf42 _ _)) (c42 okT K w203 (⟨v107.1, v154.1, v201.1⟩ : (Ar3 S_Span))  v206 hv205) ?_)
 rintro e w207 ⟨rfl, H2⟩
 have H : S26_14 ok w w207 b5 b59 v57 b62 v107 v154 v201 b190 v188 := H.below H2.base
 clear H2
 refine ⟨_, rfl, ?_⟩
 refine RL_cons (OA ze50 H (fun w209 b208 (H : Sep ok w w209 [.blk b5 50 L26_2, .blk b59 110 (L26_6 v57), .blk b62 110 (L26_13 v107 v154 v201), .blk b190 109 (L26_11 v188), .blk b208 50 L26_2] []) => ?_))
 refine RL_cons (OS 4 0 (L26_1 v206) sz50 H (fun w210 (H : Sep ok w w210 [.blk b5 50 L26_2, .blk b59 110 (L26_6 v57), .blk b62 110 (L26_13 v107 v154 v201), .blk b190 109 (L26_11 v188), .blk b208 50 (L26_1 v206)] []) => ?_))
 refine W_seq ?_
 refine W_seq ?_
 have H : Sep ok w w210 [.blk b5 50 L26_2, .blk b208 50 (L26_1 v206)] [] := (H.pickL [0, 4] (by decide))
 refine W_region ?_
 refine RL_p (xA 0 (L26_1 v206) ag50 (H.c 1)) ?_
 obtain ⟨v212, hv211, hm⟩ := bind_some hm
 refine RL_cons (OC (xc [.agg (L26_1 v206).toArray] (cf24 _ _)) (c24 okT K w210 v206  v212 hv211) ?_)
 rintro e w213 ⟨rfl, H2⟩
 have H : Sep ok w w213 [.blk b5 50 L26_2, .blk b208 50 (L26_1 v206)] [] := H.below H2.base
 clear H2
 refine ⟨_, rfl, ?_⟩
 refine RL_p (xN) ?_
 refine Wc (fun hb => ?_) (fun hb => ?_)
 ·have hm := cond_t hb hm
  refine Wr ?_
  refine RL_p (x_build (vs := []) (cs := L26_2) (by rfl) (by kernel_rfl)) ?_
  refine RL_cons (OS 0 0 L26_2 sz50 H (fun w214 (H : Sep ok w w214 [.blk b5 50 L26_2, .blk b208 50 (L26_1 v206)] []) => ?_))
  refine RL_p (xa (ii 20)) ?_
  refine W_ret ?_
  obtain rfl := Option.some.inj hm
  exact ⟨[.agg L26_2.toArray, ii 20], (.cellA (by rfl) ag50 (H.c 0) (by rfl) (.tmp (by rfl) rfl)), rfl, H.none_⟩
 have hm := cond_f hb hm
 refine W_skip ?_
 refine Wr ?_
 refine RL_p (xA 0 (L26_1 v206) ag50 (H.c 1)) ?_
 refine RL_cons (OS 0 0 (L26_1 v206) sz50 H (fun w215 (H : Sep ok w w215 [.blk b5 50 (L26_1 v206), .blk b208 50 (L26_1 v206)] []) => ?_))
 refine RL_p (xa (ii 0)) ?_
 refine W_ret ?_
 obtain rfl := Option.some.inj hm
 exact ⟨[.agg (L26_1 v206).toArray, ii 0], (.cellA (by rfl) ag50 (H.c 0) (by rfl) (.tmp (by rfl) rfl)), rfl, H.none_⟩
end Go.Proofs.YtobkigllalbkiaaV.D

/- A plain Lean function that answers as the Go function does (none: not told), and the proof that a call answers so. Written by program. -/
set_option linter.unusedVariables false
set_option maxRecDepth 100000
set_option maxHeartbeats 4000000
namespace Go.Proofs.YtobkigllalbkiaaV.D
open Go.RowKit Go.Proofs.YtobkigllalbkiaaV
abbrev L27_0 (q0 : S_Vec) : List Value := [ii q0.X, ii q0.Y, ii q0.Z]
def m27 (K : Nat) (a0 : S_Vec) (a1 : S_Vec) : Option (S_Vec) :=
 (ck (a0.X - a1.X) fun x7 => (ck (a0.Y - a1.Y) fun x8 => (ck (a0.Z - a1.Z) fun x9 => some (⟨x7, x8, x9⟩ : S_Vec))))
theorem c27 (ok : Okp) (K : Nat) (w : World) (a0 : S_Vec) (a1 : S_Vec)  (res : S_Vec) (hm : m27 K a0 a1 = some res) :
  Calls Tryd.prog 27 #[.agg (L27_0 a0).toArray, .agg (L27_0 a1).toArray] w (fun e w' => e = .returned (tup [.agg (L27_0 res).toArray]) ∧ Sep ok w w' [] []) := by
 refine calls_W (args := [.agg (L27_0 a0).toArray, .agg (L27_0 a1).toArray]) Tryd.func27 rfl Tryd.ntmps27 Tryd.results27 rfl fun r hr => ?_
 obtain ⟨r1, rfl⟩ := regen (r := r) [(0, .agg (L27_0 a0).toArray), (1, .agg (L27_0 a1).toArray)] ⟨hr 0 _ rfl, hr 1 _ rfl, trivial⟩
 have H : Sep ok w w [] [] := Sep.start ok w
 unfold m27 at hm
 refine Wr ?_
 refine RL_cons (OB H (fun w2 b1 (H : Sep ok w w2 [.blk b1 27 (L27_0 a0)] []) => ?_))
 refine RL_cons (OB H (fun w4 b3 (H : Sep ok w w4 [.blk b1 27 (L27_0 a0), .blk b3 27 (L27_0 a1)] []) => ?_))
 refine RL_cons (OA ze27 H (fun w6 b5 (H : Sep ok w w6 [.blk b1 27 (L27_0 a0), .blk b3 27 (L27_0 a1), .blk b5 27 [ii 0, ii 0, ii 0]] []) => ?_))
 refine Wr ?_
 refine RL_p (xf fo27_0) ?_
 refine RL_p (xl 0 (ii a0.X) sc3 (H.c 0)) ?_
 refine RL_p (xf fo27_0) ?_
 refine RL_p (xl 0 (ii a1.X) sc3 (H.c 1)) ?_
 obtain ⟨x7, ex7, qx7, ux7, hm⟩ := ck_some hm
 refine RL_p (xM ux7) ?_
 refine RL_p (xf fo27_1) ?_
 refine RL_p (xl 1 (ii a0.Y) sc3 (H.c 0)) ?_
 refine RL_p (xf fo27_1) ?_
 refine RL_p (xl 1 (ii a1.Y) sc3 (H.c 1)) ?_
 obtain ⟨x8, ex8, qx8, ux8, hm⟩ := ck_some hm
 refine RL_p (xM ux8) ?_
 refine RL_p (xf fo27_2) ?_
 refine RL_p (xl 2 (ii a0.Z) sc3 (H.c 0)) ?_
 refine RL_p (xf fo27_2) ?_
 refine RL_p (xl 2 (ii a1.Z) sc3 (H.c 1)) ?_
 obtain ⟨x9, ex9, qx9, ux9, hm⟩ := ck_some hm
 refine RL_p (xM ux9) ?_
 refine RL_p (x_build (vs := [(0, ii x7), (1, ii x8), (2, ii x9)]) (cs := [ii x7, ii x8, ii x9]) (by rfl) (by kernel_rfl)) ?_
 refine RL_cons (OS 2 0 [ii x7, ii x8, ii x9] sz27 H (fun w10 (H : Sep ok w w10 [.blk b1 27 (L27_0 a0), .blk b3 27 (L27_0 a1), .blk b5 27 [ii x7, ii x8, ii x9]] []) => ?_))
 refine W_ret ?_
 obtain rfl := Option.some.inj hm
 exact ⟨[.agg #[ii x7, ii x8, ii x9]], (.cellA (by rfl) ag27 (H.c 2) (by rfl) rfl), rfl, H.none_⟩
end Go.Proofs.YtobkigllalbkiaaV.D

/- A plain Lean function that answers as the Go function does (none: not told), and the proof that a call answers so. Written by program. -/
set_option linter.unusedVariables false
set_option maxRecDepth 100000
set_option maxHeartbeats 4000000
namespace Go.Proofs.YtobkigllalbkiaaV.D
open Go.RowKit Go.Proofs.YtobkigllalbkiaaV
abbrev L16_0  : List Value := [ii (-4096), ii (-4096), ii (-4096), ii 4096, ii 4096, ii 4096]
abbrev L16_1 (q0 : S_Camera) : List Value := [ii q0.Pos.X, ii q0.Pos.Y, ii q0.Pos.Z, ii q0.M.a0.a0, ii q0.M.a0.a1, ii q0.M.a0.a2, ii q0.M.a1.a0, ii q0.M.a1.a1, ii q0.M.a1.a2, ii q0.M.a2.a0, ii q0.M.a2.a1, ii q0.M.a2.a2, ii q0.Focal, ii q0.Near, ii q0.W, ii q0.H]
abbrev L16_2 (q0 : S_Box) : List Value := [ii q0.Low.X, ii q0.Low.Y, ii q0.Low.Z, ii q0.High.X, ii q0.High.Y, ii q0.High.Z]
abbrev L16_3  : List Value := [ii 0, ii 0, ii 0, ii 0, ii 0, ii 0]
abbrev L16_4 (q0 : S_Camera) : List Value := [ii q0.M.a0.a0, ii q0.M.a0.a1, ii q0.M.a0.a2, ii q0.M.a1.a0, ii q0.M.a1.a1, ii q0.M.a1.a2, ii q0.M.a2.a0, ii q0.M.a2.a1, ii q0.M.a2.a2]
abbrev L16_5 (q0 : S_Box) : List Value := [ii q0.Low.X, ii q0.Low.Y, ii q0.Low.Z]
abbrev L16_6 (q0 : S_Camera) : List Value := [ii q0.Pos.X, ii q0.Pos.Y, ii q0.Pos.Z]
abbrev L16_7 (q0 : S_Box) : List Value := [ii q0.High.X, ii q0.High.Y, ii q0.High.Z]
abbrev L16_8 (q0 : S_Vec) : List Value := [ii q0.X, ii q0.Y, ii q0.Z]
abbrev L16_9 (q0 : S_Vec) (q1 : S_Vec) : List Value := [ii q0.X, ii q0.Y, ii q0.Z, ii q1.X, ii q1.Y, ii q1.Z]
abbrev L16_10 (q0 : S_Box × Int) : List Value := [ii q0.1.Low.X, ii q0.1.Low.Y, ii q0.1.Low.Z, ii q0.1.High.X, ii q0.1.High.Y, ii q0.1.High.Z]
def m16 (K : Nat) (a0 : S_Camera) (a1 : S_Box) : Option (S_Box × Int) :=
 ((m14 K a0).bind fun v8 => (bif (v8 != 0) then some ((⟨(⟨0, 0, 0⟩ : S_Vec), (⟨0, 0, 0⟩ : S_Vec)⟩ : S_Box), v8) else ((m24 K a1).bind fun v12 => ((bif (v12 != 0) then some true else ((m25 K a1 (⟨(⟨(-4096), (-4096), (-4096)⟩ : S_Vec), (⟨4096, 4096, 4096⟩ : S_Vec)⟩ : S_Box)).bind fun v16 => some (!v16))).bind fun b14 => (bif b14 then some ((⟨(⟨0, 0, 0⟩ : S_Vec), (⟨0, 0, 0⟩ : S_Vec)⟩ : S_Box), 8) else ((m27 K a1.Low a0.Pos).bind fun v23 => ((m27 K a1.High a0.Pos).bind fun v26 => ((m26 K a0.M (⟨v23, v26⟩ : S_Box)).bind fun v29 => some (v29.1, v29.2)))))))))
abbrev S16_0 (q0 : Okp) (q1 q2 : World) (q3 : Nat) (q4 : S_Camera) (q5 : Nat) (q6 : S_Box) (q7 : Nat) : Prop := Sep q0 q1 q2 [.blk q3 31 (L16_1 q4), .blk q5 50 (L16_2 q6), .blk q7 50 L16_3] [RE.cells 0 (0) L16_0]
theorem c16 (ok : Okp) (K : Nat) (w : World) (a0 : S_Camera) (a1 : S_Box) (hG : (RE.cells 0 (0) L16_0).rel w ok) (res : S_Box × Int) (hm : m16 K a0 a1 = some res) :
  Calls Tryd.prog 16 #[.agg (L16_1 a0).toArray, .agg (L16_2 a1).toArray] w (fun e w' => e = .returned (tup [.agg (L16_10 res).toArray, ii res.2]) ∧ Sep ok w w' [] []) := by
 refine calls_W (args := [.agg (L16_1 a0).toArray, .agg (L16_2 a1).toArray]) Tryd.func16 rfl Tryd.ntmps16 Tryd.results16 rfl fun r hr => ?_
 obtain ⟨r1, rfl⟩ := regen (r := r) [(0, .agg (L16_1 a0).toArray), (1, .agg (L16_2 a1).toArray)] ⟨hr 0 _ rfl, hr 1 _ rfl, trivial⟩
 have H : Sep ok w w [] [RE.cells 0 (0) L16_0] := Sep.arg (Sep.start ok w) (re := RE.cells 0 (0) L16_0) rfl rfl hG
 unfold m16 at hm
 refine Wr ?_
 refine RL_cons (OB H (fun w2 b1 (H : Sep ok w w2 [.blk b1 31 (L16_1 a0)] [RE.cells 0 (0) L16_0]) => ?_))
 refine RL_cons (OB H (fun w4 b3 (H : Sep ok w w4 [.blk b1 31 (L16_1 a0), .blk b3 50 (L16_2 a1)] [RE.cells 0 (0) L16_0]) => ?_))
 refine RL_cons (OA ze50 H (fun w6 b5 (H : S16_0 ok w w6 b1 a0 b3 a1 b5) => ?_))
 refine RL_p (xa (ii 0)) ?_
 refine W_seq ?_
 refine Wr ?_
 refine RL_p (xA 0 (L16_1 a0) ag31 (H.c 0)) ?_
 obtain ⟨v8, hv7, hm⟩ := bind_some hm
 refine RL_cons (OC (xc [.agg (L16_1 a0).toArray] (cf14 _ _)) (c14 okT K w6 a0  v8 hv7) ?_)
 rintro e w9 ⟨rfl, H2⟩
 have H : S16_0 ok w w9 b1 a0 b3 a1 b5 := H.below H2.base
 clear H2
 refine ⟨_, rfl, ?_⟩
 refine RL_p (xa (ii v8)) ?_
 refine Wr ?_
 refine RL_p (xm (ii v8)) ?_
 refine RL_p (xN) ?_
 refine Wc (fun hb => ?_) (fun hb => ?_)
 ·have hm := cond_t hb hm
  refine Wr ?_
  refine RL_p (x_build (vs := []) (cs := L16_3) (by rfl) (by kernel_rfl)) ?_
  refine RL_p (xm (ii v8)) ?_
  refine RL_cons (OS 2 0 L16_3 sz50 H (fun w10 (H : S16_0 ok w w10 b1 a0 b3 a1 b5) => ?_))
  refine RL_p (xa (ii v8)) ?_
  refine W_ret ?_
  obtain rfl := Option.some.inj hm
  exact ⟨[.agg L16_3.toArray, ii v8], (.cellA (by rfl) ag50 (H.c 2) (by rfl) (.tmp (by rfl) rfl)), rfl, H.none_⟩
 have hm := cond_f hb hm
 refine W_skip ?_
 refine W_seq ?_
 refine Wr ?_
 refine RL_p (xA 0 (L16_2 a1) ag50 (H.c 1)) ?_
 obtain ⟨v12, hv11, hm⟩ := bind_some hm
 refine RL_cons (OC (xc [.agg (L16_2 a1).toArray] (cf24 _ _)) (c24 okT K w9 a1  v12 hv11) ?_)
 rintro e w13 ⟨rfl, H2⟩
 have H : S16_0 ok w w13 b1 a0 b3 a1 b5 := H.below H2.base
 clear H2
 refine ⟨_, rfl, ?_⟩
 refine RL_p (xN) ?_
 refine RL_p (xm (.bool (v12 != 0))) ?_
 obtain ⟨b14, hmS, hm⟩ := bind_some hm
 refine RL_cut 5 (fun r' w' => Agr [(21, .bool b14), (2, pp b1), (3, pp b3), (4, pp b5)] r' ∧ S16_0 ok w w' b1 a0 b3 a1 b5) ?_ ?_
 ·cases hbS : (v12 != 0)
  ·have hm := cond_f hbS hmS
   refine RQ (xA 0 (L16_2 a1) ag50 (H.c 1)) ?_
   refine RQ (xA 0 L16_0 ag50 (H.cellsR (i := 0) (by rfl))) ?_
   obtain ⟨v16, hv15, hm⟩ := bind_some hm
   refine RL_cons (O_call (by exact wn1 rfl rfl rfl rfl) (by rfl) (by rfl) (xc [.agg (L16_2 a1).toArray, .agg L16_0.toArray] (cf25 _ _)) (c25 okT K w13 a1 (⟨(⟨(-4096), (-4096), (-4096)⟩ : S_Vec), (⟨4096, 4096, 4096⟩ : S_Vec)⟩ : S_Box)  v16 hv15) ?_)
   rintro e w17 ⟨rfl, H2⟩
   have H : S16_0 ok w w17 b1 a0 b3 a1 b5 := H.below H2.base
   clear H2
   refine ⟨_, rfl, ?_⟩
   refine RQ (x_not (by rfl)) ?_
   refine RL_p (xF (.bool (!v16))) ?_
   refine RL_nil ?_
   exact ⟨⟨congrArg Value.bool (Option.some.inj hm), rfl, rfl, rfl, trivial⟩, H⟩
  have hm := cond_t hbS hmS
  refine RO ?_
  refine RO ?_
  refine RO ?_
  refine RO ?_
  refine RL_p (xT (.bool true)) ?_
  refine RL_nil ?_
  exact ⟨⟨congrArg Value.bool (Option.some.inj hm), rfl, rfl, rfl, trivial⟩, H⟩
 rintro r' w' ⟨hA, H⟩
 obtain ⟨r18, rfl⟩ := regen _ hA; clear hA
 obtain ⟨w19, rfl⟩ := wld w'
 show RL _ _ _ _ _ _ _
 refine Wc (fun hb => ?_) (fun hb => ?_)
 ·have hm := cond_t hb hm
  refine Wr ?_
  refine RL_p (x_build (vs := []) (cs := L16_3) (by rfl) (by kernel_rfl)) ?_
  refine RL_cons (OS 2 0 L16_3 sz50 H (fun w20 (H : S16_0 ok w w20 b1 a0 b3 a1 b5) => ?_))
  refine RL_p (xa (ii 8)) ?_
  refine W_ret ?_
  obtain rfl := Option.some.inj hm
  exact ⟨[.agg L16_3.toArray, ii 8], (.cellA (by rfl) ag50 (H.c 2) (by rfl) (.tmp (by rfl) rfl)), rfl, H.none_⟩
 have hm := cond_f hb hm
 refine W_skip ?_
 refine W_seq ?_
 refine W_draw [.free 0, .take 1, .free 2, .take 3, .free 4, .take 5, .free 7, .take 8, .free 9, .take 10, .run 6, .run 11, .free 12, .run 13, .free 14, .free 15, .tail 16, .free 17] (fun wS => S16_0 ok w wS b1 a0 b3 a1 b5) [16] [0, 2, 4, 7, 9, 12, 14, 15, 17] mixed0 (by kernel_rfl) (by kernel_rfl) (by kernel_rfl) (by rfl) (by exact H.drew) ?_
 obtain ⟨w21, hW⟩ : ∃ W : World, W = { w19 with drawn := w19.drawn + 1 } := ⟨_, rfl⟩
 rw [← hW]
 have H : S16_0 ok w w21 b1 a0 b3 a1 b5 := by rw [hW]; exact H.drew
 clear hW
 refine PF (a := xf fo31_1) (b := ?_)
 refine PT' (a := fun H => xA 3 (L16_4 a0) ag29 (H.c 0)) (b := ?_)
 refine PF (a := xf fo50_0) (b := ?_)
 refine PT' (a := fun H => xA 0 (L16_5 a1) ag27 (H.c 1)) (b := ?_)
 refine PF (a := xf fo31_0) (b := ?_)
 refine PT' (a := fun H => xA 0 (L16_6 a0) ag27 (H.c 0)) (b := ?_)
 refine PF (a := xf fo50_1) (b := ?_)
 refine PT' (a := fun H => xA 3 (L16_7 a1) ag27 (H.c 1)) (b := ?_)
 refine PF (a := xf fo31_0) (b := ?_)
 refine PT' (a := fun H => xA 0 (L16_6 a0) ag27 (H.c 0)) (b := ?_)
 obtain ⟨v23, hv22, hm⟩ := bind_some hm
 refine PU (a := OC (xc [.agg (L16_5 a1).toArray, .agg (L16_6 a0).toArray] (cf27 _ _)) (c27 okT K w21 a1.Low a0.Pos  v23 hv22) ?_)
 rintro e w24 ⟨rfl, H2⟩
 have H : S16_0 ok w w24 b1 a0 b3 a1 b5 := H.below H2.base
 clear H2
 refine ⟨_, rfl, H, ?_⟩
 show PR _ _ _ _ _ _ _ _
 obtain ⟨v26, hv25, hm⟩ := bind_some hm
 refine PU (a := OC (xc [.agg (L16_7 a1).toArray, .agg (L16_6 a0).toArray] (cf27 _ _)) (c27 okT K w24 a1.High a0.Pos  v26 hv25) ?_)
 rintro e w27 ⟨rfl, H2⟩
 have H : S16_0 ok w w27 b1 a0 b3 a1 b5 := H.below H2.base
 clear H2
 refine ⟨_, rfl, H, ?_⟩
 show PR _ _ _ _ _ _ _ _
 refine PF (a := x_build (vs := [(0, .agg (L16_8 v23).toArray), (1, .agg (L16_8 v26).toArray)]) (cs := (L16_9 v23 v26)) (by rfl) (by kernel_rfl)) (b := ?_)
 obtain ⟨v29, hv28, hm⟩ := bind_some hm
 refine PU (a := OC (xc [.agg (L16_4 a0).toArray, .agg (L16_9 v23 v26).toArray] (cf26 _ _)) (c26 okT K w27 a0.M (⟨v23, v26⟩ : S_Box)  v29 hv28) ?_)
 rintro e w30 ⟨rfl, H2⟩
 have H : S16_0 ok w w30 b1 a0 b3 a1 b5 := H.below H2.base
 clear H2
 refine ⟨_, rfl, H, ?_⟩
 show PR _ _ _ _ _ _ _ _
 refine PF (a := xe (.agg (L16_10 v29).toArray)) (b := ?_)
 refine PF (a := xe (ii v29.2)) (b := ?_)
 refine PL (a := OS 2 0 (L16_10 v29) sz50 H (fun w31 (H : Sep ok w w31 [.blk b1 31 (L16_1 a0), .blk b3 50 (L16_2 a1), .blk b5 50 (L16_10 v29)] [RE.cells 0 (0) L16_0]) => ?_))
 refine PF (a := xa (ii v29.2)) (b := ?_)
 refine PR_nil ?_
 refine W_ret ?_
 obtain rfl := Option.some.inj hm
 exact ⟨[.agg (L16_10 v29).toArray, ii v29.2], (.cellA (by rfl) ag50 (H.c 2) (by rfl) (.tmp (by rfl) rfl)), rfl, H.none_⟩
end Go.Proofs.YtobkigllalbkiaaV.D

/- A plain Lean function that answers as the Go function does (none: not told), and the proof that a call answers so. Written by program. -/
set_option linter.unusedVariables false
set_option maxRecDepth 100000
set_option maxHeartbeats 4000000
namespace Go.Proofs.YtobkigllalbkiaaV.D
open Go.RowKit Go.Proofs.YtobkigllalbkiaaV
def m28 (K : Nat) (a0 : Int) (a1 : Int) : Option (Int × Int) :=
 (bif (decide (a1 < 1)) then some (0, 2) else (nz a1 (ck (Int.tdiv a0 a1) fun x2 => (nz a1 (bif (decide (0 < (Int.tmod a0 a1))) then (ck (x2 + 1) fun x4 => some (x4, 0)) else some (x2, 0))))))
theorem c28 (ok : Okp) (K : Nat) (w : World) (a0 : Int) (a1 : Int)  (res : Int × Int) (hm : m28 K a0 a1 = some res) :
  Calls Tryd.prog 28 #[ii a0, ii a1] w (fun e w' => e = .returned (tup [ii res.1, ii res.2]) ∧ Sep ok w w' [] []) := by
 refine calls_W (args := [ii a0, ii a1]) Tryd.func28 rfl Tryd.ntmps28 Tryd.results28 rfl fun r hr => ?_
 obtain ⟨r1, rfl⟩ := regen (r := r) [(0, ii a0), (1, ii a1)] ⟨hr 0 _ rfl, hr 1 _ rfl, trivial⟩
 have H : Sep ok w w [] [] := Sep.start ok w
 unfold m28 at hm
 refine Wr ?_
 refine RL_p (xa (ii 0)) ?_
 refine RL_p (xa (ii 0)) ?_
 refine W_seq ?_
 refine Wr ?_
 refine RL_p (xm (ii a1)) ?_
 refine RL_p (xL) ?_
 refine Wc (fun hb => ?_) (fun hb => ?_)
 ·have hm := cond_t hb hm
  refine Wr ?_
  refine RL_p (xa (ii 0)) ?_
  refine RL_p (xa (ii 2)) ?_
  refine W_ret ?_
  obtain rfl := Option.some.inj hm
  exact ⟨[ii 0, ii 2], (.tmp (by rfl) (.tmp (by rfl) rfl)), rfl, H.none_⟩
 have hm := cond_f hb hm
 refine W_skip ?_
 refine W_seq ?_
 refine W_draw [.free 0, .free 1, .free 2, .free 3, .free 4, .free 5, .free 6, .free 7] (fun wS => Sep ok w wS [] []) [] [0, 1, 2, 3, 4, 5, 6, 7] mixed0 (by kernel_rfl) (by kernel_rfl) (by kernel_rfl) (by rfl) (by exact H.drew) ?_
 obtain ⟨w1, hW⟩ : ∃ W : World, W = { w with drawn := w.drawn + 1 } := ⟨_, rfl⟩
 rw [← hW]
 have H : Sep ok w w1 [] [] := by rw [hW]; exact H.drew
 clear hW
 refine PF (a := xm (ii a0)) (b := ?_)
 refine PF (a := xm (ii a1)) (b := ?_)
 obtain ⟨nx2, hm⟩ := nz_some hm
 obtain ⟨x2, ex2, qx2, ux2, hm⟩ := ck_some hm
 refine PF (a := x_quo (by rfl) (by rfl) nx2 ux2) (b := ?_)
 refine PF (a := xm (ii a0)) (b := ?_)
 refine PF (a := xm (ii a1)) (b := ?_)
 obtain ⟨nx3, hm⟩ := nz_some hm
 refine PF (a := x_rem (by rfl) (by rfl) nx3) (b := ?_)
 refine PF (a := xa (ii x2)) (b := ?_)
 refine PF (a := xa (ii (Int.tmod a0 a1))) (b := ?_)
 refine PR_nil ?_
 refine W_seq ?_
 refine Wr ?_
 refine RL_p (xm (ii (Int.tmod a0 a1))) ?_
 refine RL_p (xG) ?_
 refine Wc (fun hb => ?_) (fun hb => ?_)
 ·have hm := cond_t hb hm
  refine W_region ?_
  refine RL_p (xm (ii x2)) ?_
  obtain ⟨x4, ex4, qx4, ux4, hm⟩ := ck_some hm
  refine RL_p (xP ux4) ?_
  refine RL_p (xa (ii x4)) ?_
  refine Wr ?_
  refine RL_p (xm (ii x4)) ?_
  refine RL_p (xa (ii x4)) ?_
  refine RL_p (xa (ii 0)) ?_
  refine W_ret ?_
  obtain rfl := Option.some.inj hm
  exact ⟨[ii x4, ii 0], (.tmp (by rfl) (.tmp (by rfl) rfl)), rfl, H.none_⟩
 have hm := cond_f hb hm
 refine W_skip ?_
 refine Wr ?_
 refine RL_p (xm (ii x2)) ?_
 refine RL_p (xa (ii x2)) ?_
 refine RL_p (xa (ii 0)) ?_
 refine W_ret ?_
 obtain rfl := Option.some.inj hm
 exact ⟨[ii x2, ii 0], (.tmp (by rfl) (.tmp (by rfl) rfl)), rfl, H.none_⟩
end Go.Proofs.YtobkigllalbkiaaV.D

/- A plain Lean function that answers as the Go function does (none: not told), and the proof that a call answers so. Written by program. -/
set_option linter.unusedVariables false
set_option maxRecDepth 100000
set_option maxHeartbeats 4000000
namespace Go.Proofs.YtobkigllalbkiaaV.D
open Go.RowKit Go.Proofs.YtobkigllalbkiaaV
abbrev L17_0 (q0 : S_way) : List Value := [ii q0.grows, ii q0.middle, ii q0.near, ii q0.far]
def m17 (K : Nat) (a0 : S_way) (a1 : Int) (a2 : Int) (a3 : Int) (a4 : Int) : Option (Int × Int × Bool) :=
 (ck (a1 - 4) fun x3 => ((m28 K x3 8).bind fun v5 => (ck (a2 - 4) fun x7 => ((m29 K x7 8).bind fun v9 => some ((mx v5.1 a3), (mn v9.1 a4), (decide ((mx v5.1 a3) ≤ (mn v9.1 a4))))))))
theorem c17 (ok : Okp) (K : Nat) (w : World) (a0 : S_way) (a1 : Int) (a2 : Int) (a3 : Int) (a4 : Int)  (res : Int × Int × Bool) (hm : m17 K a0 a1 a2 a3 a4 = some res) :
  Calls Tryd.prog 17 #[.agg (L17_0 a0).toArray, ii a1, ii a2, ii a3, ii a4] w (fun e w' => e = .returned (tup [ii res.1, ii res.2.1, .bool res.2.2]) ∧ Sep ok w w' [] []) := by
 refine calls_W (args := [.agg (L17_0 a0).toArray, ii a1, ii a2, ii a3, ii a4]) Tryd.func17 rfl Tryd.ntmps17 Tryd.results17 rfl fun r hr => ?_
 obtain ⟨r1, rfl⟩ := regen (r := r) [(0, .agg (L17_0 a0).toArray), (1, ii a1), (2, ii a2), (3, ii a3), (4, ii a4)] ⟨hr 0 _ rfl, hr 1 _ rfl, hr 2 _ rfl, hr 3 _ rfl, hr 4 _ rfl, trivial⟩
 have H : Sep ok w w [] [] := Sep.start ok w
 unfold m17 at hm
 refine Wr ?_
 refine RL_cons (OB H (fun w2 b1 (H : Sep ok w w2 [.blk b1 77 (L17_0 a0)] []) => ?_))
 refine RL_p (xa (ii 0)) ?_
 refine RL_p (xa (ii 0)) ?_
 refine RL_p (xa (.bool false)) ?_
 refine Wr ?_
 refine RL_p (xm (ii a1)) ?_
 obtain ⟨x3, ex3, qx3, ux3, hm⟩ := ck_some hm
 refine RL_p (xM ux3) ?_
 obtain ⟨v5, hv4, hm⟩ := bind_some hm
 refine RL_cons (OC (xc [ii x3, ii 8] (cf28 _ _)) (c28 okT K w2 x3 8  v5 hv4) ?_)
 rintro e w6 ⟨rfl, H2⟩
 have H : Sep ok w w6 [.blk b1 77 (L17_0 a0)] [] := H.below H2.base
 clear H2
 refine ⟨_, rfl, ?_⟩
 refine RL_p (xm (tup [ii v5.1, ii v5.2])) ?_
 refine RL_p (xe (ii v5.1)) ?_
 refine RL_p (xe (ii v5.2)) ?_
 refine RL_p (xa (ii v5.1)) ?_
 refine RL_p (xa (ii v5.2)) ?_
 refine Wr ?_
 refine RL_p (xm (ii a2)) ?_
 obtain ⟨x7, ex7, qx7, ux7, hm⟩ := ck_some hm
 refine RL_p (xM ux7) ?_
 obtain ⟨v9, hv8, hm⟩ := bind_some hm
 refine RL_cons (OC (xc [ii x7, ii 8] (cf29 _ _)) (c29 okT K w6 x7 8  v9 hv8) ?_)
 rintro e w10 ⟨rfl, H2⟩
 have H : Sep ok w w10 [.blk b1 77 (L17_0 a0)] [] := H.below H2.base
 clear H2
 refine ⟨_, rfl, ?_⟩
 refine RL_p (xm (tup [ii v9.1, ii v9.2])) ?_
 refine RL_p (xe (ii v9.1)) ?_
 refine RL_p (xe (ii v9.2)) ?_
 refine RL_p (xa (ii v9.1)) ?_
 refine RL_p (xa (ii v9.2)) ?_
 refine Wr ?_
 refine RL_p (xm (ii v5.1)) ?_
 refine RL_p (xm (ii a3)) ?_
 refine RL_p (x_max2 (by rfl) (by rfl)) ?_
 refine RL_p (xm (ii v9.1)) ?_
 refine RL_p (xm (ii a4)) ?_
 refine RL_p (x_min2 (by rfl) (by rfl)) ?_
 refine RL_p (xa (ii (mx v5.1 a3))) ?_
 refine RL_p (xa (ii (mn v9.1 a4))) ?_
 refine Wr ?_
 refine RL_p (xm (ii (mx v5.1 a3))) ?_
 refine RL_p (xm (ii (mn v9.1 a4))) ?_
 refine RL_p (xm (ii (mx v5.1 a3))) ?_
 refine RL_p (xm (ii (mn v9.1 a4))) ?_
 refine RL_p (x_leq (by rfl) (by rfl)) ?_
 refine RL_p (xa (ii (mx v5.1 a3))) ?_
 refine RL_p (xa (ii (mn v9.1 a4))) ?_
 refine RL_p (xa (.bool (decide ((mx v5.1 a3) ≤ (mn v9.1 a4))))) ?_
 refine W_ret ?_
 obtain rfl := Option.some.inj hm
 exact ⟨[ii (mx v5.1 a3), ii (mn v9.1 a4), .bool (decide ((mx v5.1 a3) ≤ (mn v9.1 a4)))], (.tmp (by rfl) (.tmp (by rfl) (.tmp (by rfl) rfl))), rfl, H.none_⟩
end Go.Proofs.YtobkigllalbkiaaV.D
