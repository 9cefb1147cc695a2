/- Part 1 of the texts that the proof of TopCard stands on. -/
import Derived.Test.YtobkigllalbkiaaDoorRows
import Derived.Tactics
import Derived.OrdersHeld
import Derived.Deep.LoopGhost
import Derived.KernelRfl
import Derived.WalkKit
import Derived.Laws.CopyOwn
import Derived.Laws.CopyRow
import Derived.Laws.Tables
import Derived.Laws.OwnMore
import Derived.Laws.StructEq
import Derived.Maps.AppendAt
import Derived.Great.BuildSlice
import Derived.Laws.Slices
import Derived.ProofKit
import Derived.OpenShut
import Derived.Deep.Slices
import Derived.Carry
import Derived.Maps.OwnSet
import Derived.Lib.AppendZerosOnto
import Derived.Lib.Overlaps
import Derived.Laws.Externs
import Derived.Test.YtobkigllalbkiaaDoorProg
import Derived.LaidOnce
import Derived.LaidLaws
import Derived.LaidMore
import Derived.Deep.Strs
import Derived.Handed
import Derived.Test.YtobkigllalbkiaaDoorTie
import Derived.Test.YtobkigllalbkiaaDoorCards
import Derived.SevenTiedAt
/- A small logic over the model's wp: frames as functions, regions as lists of operations, loops by fuel. Nothing here names a program. -/
set_option linter.unusedVariables false
set_option linter.unusedSimpArgs false
namespace Go.Proofs.YtobkigllalbkiaaV

theorem lt_of_blt {a b : Nat} (h : Nat.blt a b = true) : a < b := by rw [Nat.blt_eq] at h; exact h
abbrev Regs := Nat → Value
def upd (r : Regs) (d : Nat) (v : Value) : Regs := fun i => bif Nat.beq i d then v else r i
def updL : List (Nat × Value) → Regs → Regs
  | [], r => r
  | p :: l, r => upd (updL l r) p.1 p.2
theorem upd_same (r : Regs) (d : Nat) (v : Value) : upd r d v d = v := by simp [upd]
theorem upd_ne (r : Regs) {d i : Nat} (v : Value) (h : i ≠ d) : upd r d v i = r i := by
  have : Nat.beq i d = false := by
    cases hb : Nat.beq i d
    · rfl
    · exact absurd (Nat.eq_of_beq_eq_true hb) h
  simp [upd, this]
/-- The frame's slots say so. -/
def Agr : List (Nat × Value) → Regs → Prop
  | [], _ => True
  | p :: l, r => r p.1 = p.2 ∧ Agr l r
theorem upd_self {r : Regs} {d : Nat} {v : Value} (h : r d = v) : upd r d v = r := by
  funext i
  by_cases hi : i = d
  · subst hi; rw [upd_same, h]
  · rw [upd_ne _ _ hi]
theorem updL_self : ∀ {l : List (Nat × Value)} {r : Regs}, Agr l r → updL l r = r
  | [], _, _ => rfl
  | p :: l, r, h => by simp only [updL]; rw [updL_self h.2]; exact upd_self h.1
theorem regen {r : Regs} (l : List (Nat × Value)) (h : Agr l r) : ∃ r1, r = updL l r1 := ⟨r, (updL_self h).symm⟩

def ev (r : Regs) : Operand → Value
  | .tmp t => r t
  | .const v => v
  | .global g => .pointer (some ⟨g, 0, none⟩)
  | .func f => .func (.func f) #[] #[]

structure Fr (n : Nat) (r : Regs) (a : Act) : Prop where
  size : a.tmps.size = n
  defers : a.defers = []
  get : ∀ i, a.tmps.getD i undef = r i

section
variable {n : Nat} {r : Regs} {a : Act}
theorem Fr.eval (h : Fr n r a) : a.eval = ev r := by
  funext x
  cases x with
  | tmp t => exact h.get t
  | const v => rfl
  | global g => rfl
  | func f => rfl
theorem Fr.put (h : Fr n r a) {d : Nat} (hd : d < n) (v : Value) : Fr n (upd r d v) (a.put (some d) v) := by
  refine ⟨by simp [Act.put, h.size], h.defers, fun i => ?_⟩
  by_cases hi : i = d
  · subst hi
    rw [upd_same]
    have : i < a.tmps.size := by rw [h.size]; exact hd
    simp [Act.put, this]
  · rw [upd_ne _ _ hi, ← h.get i]
    simp [Act.put, Array.getElem?_setIfInBounds_ne (Ne.symm hi)]
theorem Fr.put_none (h : Fr n r a) (v : Value) : Fr n r (a.put none v) := h
end

abbrev Post := Exit → Regs → World → Prop
def lift (n : Nat) (Q : Post) : Exit → Act → World → Prop
  | .panic _, _, _ => False
  | .outgrown, _, _ => False
  | e, a, w => ∃ r, Fr n r a ∧ Q e r w
def W (P : Program) (n : Nat) (c : Code) (Q : Post) (r : Regs) (w : World) : Prop := ∀ a, Fr n r a → c.wp P (lift n Q) a w

def thenP (K : Regs → World → Prop) (Q : Post) : Post
  | .normal, r, w => K r w
  | e, r, w => Q e r w
def blockP (id : Nat) (Q : Post) : Post
  | .exit id', r, w => bif Nat.beq id' id then Q .normal r w else Q (.exit id') r w
  | e, r, w => Q e r w

section
variable {P : Program} {n : Nat} {Q : Post} {r : Regs} {w : World}
theorem W_mono {c : Code} {Q' : Post} (h : W P n c Q r w) (hq : ∀ e r w, Q e r w → Q' e r w) : W P n c Q' r w :=
  fun a ha => wp_mono (h a ha) fun e a w q => by
    cases e <;> first | exact q.elim | (obtain ⟨r, hr, hq'⟩ := q; exact ⟨r, hr, hq _ _ _ hq'⟩)
theorem W_seq {x y : Code} (h : W P n x (thenP (W P n y Q) Q) r w) : W P n (.seq x y) Q r w :=
  fun a ha => wp_seq (wp_mono (h a ha) fun e a w q => by
    cases e with
    | normal => obtain ⟨r, hr, hq⟩ := q; exact hq a hr
    | panic c => exact q.elim
    | outgrown => exact q.elim
    | exit id => exact q
    | goto l => exact q
    | ret => exact q)
theorem W_skip (h : Q .normal r w) : W P n .skip Q r w := fun a ha => wp_skip ⟨r, ha, h⟩
theorem W_ret (h : Q .ret r w) : W P n .ret Q r w := fun a ha => wp_ret ⟨r, ha, h⟩
theorem W_exit {id : Nat} (h : Q (.exit id) r w) : W P n (.exit id) Q r w := fun a ha => wp_exit ⟨r, ha, h⟩
theorem W_cond {c : Operand} {x y : Code} {t : Bool} (hc : ev r c = .bool t) (ht : t = true → W P n x Q r w) (hf : t = false → W P n y Q r w) : W P n (.cond c x y) Q r w :=
  fun a ha => wp_cond_split (t := t) (by rw [ha.eval]; exact hc) (fun h => ht h a ha) (fun h => hf h a ha)
theorem W_block {id : Nat} {c : Code} (h : W P n c (blockP id Q) r w) : W P n (.block id c) Q r w :=
  fun a ha => wp_block (wp_mono (h a ha) fun e a w q => by
    cases e with
    | exit id' =>
      obtain ⟨r, hr, hq⟩ := q
      simp only [blockP] at hq
      simp only [Exit.inBlock]
      split
      · rename_i h; subst h; rw [Nat.beq_refl] at hq; exact ⟨r, hr, hq⟩
      · rename_i h
        have : Nat.beq id' id = false := by
          cases hb : Nat.beq id' id
          · rfl
          · exact absurd (Nat.eq_of_beq_eq_true hb) h
        rw [this] at hq; exact ⟨r, hr, hq⟩
    | normal => exact q
    | panic c => exact q.elim
    | outgrown => exact q.elim
    | goto l => exact q
    | ret => exact q)
/-- Where ways meet again. -/
theorem W_join {x y : Code} (J : Regs → World → Prop) (h1 : W P n x (thenP J Q) r w) (h2 : ∀ r w, J r w → W P n y Q r w) : W P n (.seq x y) Q r w :=
  W_seq (W_mono h1 fun e r w q => by
    cases e with
    | normal => exact h2 r w q
    | _ => exact q)
/-- A loop, by fuel: each round has less of it. -/
theorem W_loop {c : Code} (I : Nat → Regs → World → Prop) (k : Nat) (h0 : I k r w)
    (round : ∀ k r w, I k r w → W P n c (thenP (fun r' w' => ∃ k', k' < k ∧ I k' r' w') Q) r w) : W P n (.loop c) Q r w :=
  fun a ha => wp_loop_ghost (fun k a w => ∃ r, Fr n r a ∧ I k r w) k ⟨r, ha, h0⟩ fun k a w ⟨r, hr, hI⟩ =>
    wp_mono (round k r w hI a hr) fun e a w q => by
      cases e with
      | normal => obtain ⟨r, hr, k', hk, hI'⟩ := q; exact ⟨k', hk, r, hr, hI'⟩
      | panic c => exact q.elim
      | outgrown => exact q.elim
      | exit id => exact q
      | goto l => exact q
      | ret => exact q
end

section
variable {P : Program} {n : Nat} {Q : Post} {r : Regs} {w : World}
/-- A loop that is gone through round by round. -/
def WU (P : Program) (n : Nat) (c : Code) (Q : Post) : Nat → Regs → World → Prop
  | 0, _, _ => False
  | k + 1, r, w => W P n c (thenP (WU P n c Q k) Q) r w
theorem WU_succ {c : Code} {k : Nat} (h : W P n c (thenP (WU P n c Q k) Q) r w) : WU P n c Q (k + 1) r w := h
theorem W_unroll (k : Nat) {c : Code} (h : WU P n c Q k r w) : W P n (.loop c) Q r w :=
  W_loop (fun k r w => WU P n c Q k r w) k h fun k r w h => by
    cases k with
    | zero => exact h.elim
    | succ k =>
      refine W_mono (show W P n c (thenP (WU P n c Q k) Q) r w from h) (fun e r w q => ?_)
      cases e with
      | normal => exact ⟨k, Nat.lt_succ_self k, q⟩
      | _ => exact q
end

/-! ### operations -/
def yieldR (ops : Array Oper) (r : Regs) (j : Nat) : Option Bool :=
  match (ops[j]?).bind (·.dst) with
  | some d => match r d with
    | .bool b => some b
    | _ => none
  | none => none
def wantedR (ops : Array Oper) (r : Regs) (o : Oper) : Bool :=
  match o.guard with
  | none => true
  | some (j, want) => yieldR ops r j == some want
section
variable {n : Nat} {r : Regs} {a : Act}
theorem Fr.wanted (h : Fr n r a) (ops : Array Oper) (o : Oper) : Region.wanted o (yielded ops a.tmps) = wantedR ops r o := by
  unfold Region.wanted wantedR
  cases o.guard with
  | none => rfl
  | some p =>
    obtain ⟨j, want⟩ := p
    have : yielded ops a.tmps j = yieldR ops r j := by
      unfold yielded yieldR
      cases (ops[j]?).bind (·.dst) with
      | none => rfl
      | some d =>
        have hg := h.get d
        simp only [Option.bind_some]
        cases ht : a.tmps[d]? with
        | none =>
          have : r d = undef := by rw [← hg]; simp [Array.getD_eq_getD_getElem?, ht]
          rw [this]; rfl
        | some v =>
          have : r d = v := by rw [← hg]; simp [Array.getD_eq_getD_getElem?, ht]
          rw [this]
          cases v <;> rfl
    simp only [this]
end

/-- One operation of a region: what follows it holds. -/
def OpR (P : Program) (ops : Array Oper) (n : Nat) (o : Oper) (r : Regs) (w : World) (K : Regs → World → Prop) : Prop :=
  ∀ (Q : Exit → Act → World → Prop) (K' : Act → World → Prop) (a : Act), Fr n r a → (∀ a' r' w', Fr n r' a' → K r' w' → K' a' w') →
    if wantedR ops r o then o.wp P a w K' Q else K' (a.put o.dst undef) w
def RL (P : Program) (ops : Array Oper) (n : Nat) : List Oper → (Regs → World → Prop) → Regs → World → Prop
  | [], M, r, w => M r w
  | o :: rest, M, r, w => OpR P ops n o r w (RL P ops n rest M)

section
variable {P : Program} {ops : Array Oper} {n : Nat} {o : Oper} {r : Regs} {w : World} {K : Regs → World → Prop}
theorem OpR_mono {K' : Regs → World → Prop} (h : OpR P ops n o r w K) (hk : ∀ r w, K r w → K' r w) : OpR P ops n o r w K' :=
  fun Q KA a ha hK => h Q KA a ha fun a' r' w' hr hk' => hK a' r' w' hr (hk _ _ hk')
theorem OpR_val {d : Nat} {v : Value} {w' : World} (hw : wantedR ops r o = true) (hd : o.dst = some d) (hn : Nat.blt d n = true)
    (hrun : (execOp (ev r) o).run P w = .ok (.value v) w') (h : K (upd r d v) w') : OpR P ops n o r w K := by
  intro Q K' a ha hK
  rw [if_pos hw]
  unfold Oper.wp
  rw [ha.eval, hrun]
  simp only [Oper.upon, hd]
  exact hK _ _ _ (ha.put (lt_of_blt hn) v) h
theorem OpR_val0 {v : Value} {w' : World} (hw : wantedR ops r o = true) (hd : o.dst = none)
    (hrun : (execOp (ev r) o).run P w = .ok (.value v) w') (h : K r w') : OpR P ops n o r w K := by
  intro Q K' a ha hK
  rw [if_pos hw]
  unfold Oper.wp
  rw [ha.eval, hrun]
  simp only [Oper.upon, hd]
  exact hK _ _ _ ha h
theorem OpR_unit {w' : World} (hw : wantedR ops r o = true) (hd : o.dst = none)
    (hrun : (execOp (ev r) o).run P w = .ok .skip w') (h : K r w') : OpR P ops n o r w K := by
  intro Q K' a ha hK
  rw [if_pos hw]
  unfold Oper.wp
  rw [ha.eval, hrun]
  simp only [Oper.upon, hd]
  exact hK _ _ _ ha h
theorem OpR_call {d : Nat} {f : FuncId} {args : Array Value} {R : Ending → World → Prop} (hw : wantedR ops r o = true) (hd : o.dst = some d) (hn : Nat.blt d n = true)
    (hrun : (execOp (ev r) o).run P w = .ok (.enter f args) w) (hc : Calls P f args w R) (h : ∀ e w', R e w' → ∃ v, e = .returned v ∧ K (upd r d v) w') : OpR P ops n o r w K := by
  intro Q K' a ha hK
  rw [if_pos hw]
  unfold Oper.wp
  rw [ha.eval, hrun]
  simp only [Oper.upon]
  refine hc.mono fun e w' hR => ?_
  obtain ⟨v, rfl, hk⟩ := h e w' hR
  simp only [hd]
  exact hK _ _ _ (ha.put (lt_of_blt hn) v) hk
theorem OpR_call0 {f : FuncId} {args : Array Value} {R : Ending → World → Prop} (hw : wantedR ops r o = true) (hd : o.dst = none)
    (hrun : (execOp (ev r) o).run P w = .ok (.enter f args) w) (hc : Calls P f args w R) (h : ∀ e w', R e w' → ∃ v, e = .returned v ∧ K r w') : OpR P ops n o r w K := by
  intro Q K' a ha hK
  rw [if_pos hw]
  unfold Oper.wp
  rw [ha.eval, hrun]
  simp only [Oper.upon]
  refine hc.mono fun e w' hR => ?_
  obtain ⟨v, rfl, hk⟩ := h e w' hR
  simp only [hd]
  exact hK _ _ _ ha hk
theorem OpR_off {d : Nat} (hw : wantedR ops r o = false) (hd : o.dst = some d) (hn : Nat.blt d n = true) (h : K (upd r d undef) w) : OpR P ops n o r w K := by
  intro Q K' a ha hK
  rw [if_neg (by rw [hw]; simp)]
  rw [hd]
  exact hK _ _ _ (ha.put (lt_of_blt hn) undef) h
theorem wn0 (h : o.guard = none) : wantedR ops r o = true := by simp [wantedR, h]
theorem wn1 {j d : Nat} {want b : Bool} (h : o.guard = some (j, want)) (hj : (ops[j]?).bind (·.dst) = some d) (hb : r d = .bool b) (e : b = want) : wantedR ops r o = true := by
  subst e; simp [wantedR, h, yieldR, hj, hb]
theorem wn2 {j d : Nat} {want b : Bool} (h : o.guard = some (j, want)) (hj : (ops[j]?).bind (·.dst) = some d) (hb : r d = .bool b) (e : b = !want) : wantedR ops r o = false := by
  subst e; cases want <;> simp [wantedR, h, yieldR, hj, hb]
/-- The guard's own operation was left out. -/
theorem wn3 {j d : Nat} {want : Bool} (h : o.guard = some (j, want)) (hj : (ops[j]?).bind (·.dst) = some d) (hb : r d = undef) : wantedR ops r o = false := by
  simp only [wantedR, h, yieldR, hj, hb]; rfl
end

section
variable {P : Program} {ops : Array Oper} {n : Nat} {r : Regs} {w : World} {M : Regs → World → Prop}
theorem RL_nil (h : M r w) : RL P ops n [] M r w := h
theorem RL_cons {o : Oper} {rest : List Oper} (h : OpR P ops n o r w (RL P ops n rest M)) : RL P ops n (o :: rest) M r w := h
theorem RL_mono {M' : Regs → World → Prop} (hm : ∀ r w, M r w → M' r w) : ∀ (l : List Oper) (r : Regs) (w : World), RL P ops n l M r w → RL P ops n l M' r w
  | [], _, _, h => hm _ _ h
  | _ :: l, _, _, h => OpR_mono h fun r w => RL_mono hm l r w
theorem RL_app : ∀ (l1 l2 : List Oper) (r : Regs) (w : World), RL P ops n l1 (RL P ops n l2 M) r w → RL P ops n (l1 ++ l2) M r w
  | [], _, _, _, h => h
  | _ :: l1, l2, _, _, h => OpR_mono h fun r w => RL_app l1 l2 r w
/-- The first k operations apart. -/
theorem RL_cut (k : Nat) {l : List Oper} (M1 : Regs → World → Prop) (h : RL P ops n (l.take k) M1 r w) (h2 : ∀ r w, M1 r w → RL P ops n (l.drop k) M r w) : RL P ops n l M r w := by
  have := RL_app (M := M) (l.take k) (l.drop k) r w (RL_mono h2 _ _ _ h)
  rwa [List.take_append_drop] at this
theorem wpList_of_RL {Q : Exit → Act → World → Prop} (hQ : ∀ a r w, Fr n r a → M r w → Q .normal a w) : ∀ (l : List Oper) (r : Regs) (w : World) (a : Act), Fr n r a → RL P ops n l M r w → wpList P ops Q l a w
  | [], _, _, a, ha, h => hQ a _ _ ha h
  | o :: l, r, w, a, ha, h => by
    have := h Q (wpList P ops Q l) a ha (fun a' r' w' hr hk => wpList_of_RL hQ l r' w' a' hr hk)
    unfold wpList
    rw [ha.wanted ops o]
    split
    · rename_i hw; rw [if_pos hw] at this; exact .inl this
    · rename_i hw; rw [if_neg hw] at this; exact this
theorem W_region {id : Nat} {l : List Oper} {Q : Post} (h : RL P l.toArray n l (fun r w => Q .normal r w) r w) : W P n (.region id l.toArray false) Q r w :=
  fun a ha => wp_region_lit (wpList_of_RL (fun a' r' w' hr hk => ⟨r', hr, hk⟩) l r w a ha h)
end

/-! ### regions that draw their order -/
inductive Mv where
  | take (i : Nat)
  | free (i : Nat)
  | run (i : Nat)
  | tail (i : Nat)
def Mv.noTake : Mv → Bool
  | .take _ => false
  | _ => true
def inL (T : List Nat) (i : Nat) : Bool := T.any fun j => Nat.beq j i
/-- Every operation of the tail waits for every one that is neither of the tail nor free. -/
def tailOK (ops : Array Oper) (T F : List Nat) : Bool :=
  (List.range ops.size).all fun j => !inL T j || match ops[j]? with
    | some o => (List.range ops.size).all fun i => inL T i || inL F i || o.after.any fun e => Region.binds .any e && Nat.beq e.on i
    | none => true
def planOK (ops : Array Oper) (T F : List Nat) : List Mv → Array Bool → Bool
  | [], listed => (Region.ready .any ops listed).isEmpty
  | .take i :: p, listed => !inL T i && !inL F i && Region.free .any ops listed i && (Region.ready .any ops listed).contains i && planOK ops T F p (listed.setIfInBounds i true)
  | .free i :: p, listed => Region.free .any ops listed i && (Region.ready .any ops listed).contains i && planOK ops T F p (listed.setIfInBounds i true)
  | .run i :: p, listed => !inL T i && (Region.ready .any ops listed == [i]) && planOK ops T F p (listed.setIfInBounds i true)
  | .tail i :: p, listed => (Region.ready .any ops listed == [i]) && inL T i && p.all Mv.noTake && planOK ops T F p (listed.setIfInBounds i true)
def PR (P : Program) (ops : Array Oper) (n : Nat) (S : World → Prop) : List Mv → (Regs → World → Prop) → Regs → World → Prop
  | [], M, r, w => M r w
  | .take i :: p, M, r, w => ∃ o d v, ops[i]? = some o ∧ o.dst = some d ∧ Nat.blt d n = true ∧
      ((wantedR ops r o = true ∧ ∀ w', S w' → (execOp (ev r) o).run P w' = .ok (.value v) w') ∨ (wantedR ops r o = false ∧ v = undef)) ∧ PR P ops n S p M (upd r d v) w
  | .free i :: p, M, r, w => ∃ o d v, ops[i]? = some o ∧ o.dst = some d ∧ Nat.blt d n = true ∧
      ((wantedR ops r o = true ∧ ∀ w' : World, True → (execOp (ev r) o).run P w' = .ok (.value v) w') ∨ (wantedR ops r o = false ∧ v = undef)) ∧ PR P ops n S p M (upd r d v) w
  | .run i :: p, M, r, w => ∃ o, ops[i]? = some o ∧ OpR P ops n o r w fun r' w' => S w' ∧ PR P ops n S p M r' w'
  | .tail i :: p, M, r, w => ∃ o, ops[i]? = some o ∧ OpR P ops n o r w fun r' w' => PR P ops n S p M r' w'

section
variable {P : Program} {ops : Array Oper} {Q : Exit → Act → World → Prop} {md : Region.Mode} {S : World → Prop} {T F : List Nat}
/-- Whatever order is picked from here on, AND every operation that is not of the tail keeps 'S'. -/
def wpAnyT (P : Program) (md : Region.Mode) (ops : Array Oper) (Q : Exit → Act → World → Prop) (S : World → Prop) (T : List Nat) : Nat → Array Bool → Act → World → Prop
  | 0, listed, a, w => Region.ready md ops listed = [] ∧ Q .normal a w
  | fuel + 1, listed, a, w =>
    (Region.ready md ops listed = [] → Q .normal a w) ∧
    ∀ i ∈ Region.ready md ops listed, wpOp P ops Q i (fun a' w' => (inL T i = false → S w → S w') ∧ wpAnyT P md ops Q S T fuel (listed.setIfInBounds i true) a' w') a w
theorem wpAny_of_T : ∀ (fuel : Nat) (listed : Array Bool) (a : Act) (w : World), wpAnyT P md ops Q S T fuel listed a w → wpAny P md ops Q fuel listed a w
  | 0, _, _, _, h => h
  | fuel + 1, _, _, _, h => ⟨h.1, fun i hi => wpOp_mono (fun a' w' h' => wpAny_of_T fuel _ a' w' h'.2) (h.2 i hi)⟩
theorem tail_waits (ht : tailOK ops T F = true) {i j : Nat} {listed : Array Bool} (hi : i < ops.size) (hiT : inL T i = false) (hiF : inL F i = false) (hj : j ∈ Region.ready .any ops listed) (hT : inL T j = true) : listed.getD i false = true := by
  obtain ⟨h0, o, ho, hall⟩ := mem_ready.1 hj
  simp only [tailOK, List.all_eq_true, List.mem_range, Bool.or_eq_true] at ht
  rcases ht j (Array.getElem?_eq_some_iff.1 ho).1 with h | h
  · rw [hT] at h; cases h
  · simp only [ho, List.all_eq_true, List.mem_range, Bool.or_eq_true] at h
    rcases h i hi with h | h
    · rw [hiT, hiF] at h; rcases h with h | h <;> cases h
    · obtain ⟨e, he, hb⟩ := Array.any_eq_true'.1 h
      simp only [Bool.and_eq_true] at hb
      have := hall e he hb.1
      rwa [Nat.eq_of_beq_eq_true hb.2] at this
theorem wpAnyT_first (ht : tailOK ops T F = true) {i : Nat} {oi : Oper} {v : Value} (hiT : inL T i = false) (hiF : inL F i = false) (hi : ops[i]? = some oi) (hsel : ∀ (j : Nat) (o : Oper) cs b, ops[j]? = some o → o.op ≠ .select cs b)
    (hQ : ∀ c a w, Q (.panic c) (a.put oi.dst v) w → Q (.panic c) a w) :
    ∀ (fuel : Nat) (listed : Array Bool) (a : Act) (w : World),
      (∀ j oj, ops[j]? = some oj → j ≠ i → listed.getD j true = false → (∀ e ∈ oj.after, Region.binds .any e = true → e.on ≠ i) → oi.apart ops oj = true) →
      i ∈ Region.ready .any ops listed → YieldsIf P ops S oi v a → S w →
      wpAnyT P .any ops Q S T fuel (listed.setIfInBounds i true) (a.put oi.dst v) w → wpAnyT P .any ops Q S T (fuel + 1) listed a w := by
  intro fuel
  induction fuel with
  | zero =>
    intro listed a w _ hr hy hS H
    refine ⟨fun h => (by rw [h] at hr; cases hr), fun j hj => ?_⟩
    by_cases hji : j = i
    · subst hji; exact hy.wpOp hi hS ⟨fun _ h => h, H⟩
    · have := ready_mono hj hji
      rw [H.1] at this
      cases this
  | succ fuel ih =>
    intro listed a w hfree hr hy hS H
    refine ⟨fun h => (by rw [h] at hr; cases hr), fun j hj => ?_⟩
    by_cases hji : j = i
    · subst hji; exact hy.wpOp hi hS ⟨fun _ h => h, H⟩
    · have h1 := H.2 j (ready_mono hj hji)
      obtain ⟨hjun, oj, hoj, hall⟩ := mem_ready.1 hj
      have hnot : ∀ e ∈ oj.after, Region.binds .any e = true → e.on ≠ i := fun e he hb heq => by
        have h1 := hall e he hb
        have h0 := (mem_ready.1 hr).1
        rw [heq] at h1
        rcases Nat.lt_or_ge i listed.size with h' | h'
        · simp [h'] at h0 h1; rw [h0] at h1; cases h1
        · simp [Array.getElem?_eq_none h'] at h1
      have h2 := wpOp_putIf hoj (hfree j oj hoj hji hjun hnot) (fun cs b => hsel i oi cs b hi) (fun cs b => hsel j oj cs b hoj) hQ hy h1
      have hfree' : ∀ k ok, ops[k]? = some ok → k ≠ i → (listed.setIfInBounds j true).getD k true = false →
          (∀ e ∈ ok.after, Region.binds .any e = true → e.on ≠ i) → oi.apart ops ok = true := fun k ok hk hki hun hno => by
        refine hfree k ok hk hki ?_ hno
        by_cases hjk : j = k
        · subst hjk; exact hjun
        · rw [getD_set_ne true hjk] at hun; exact hun
      refine wpOp_mono (fun a' w' h3 => ?_) h2
      have hjT : inL T j = false := by
        cases h' : inL T j
        · rfl
        · have := tail_waits ht (Array.getElem?_eq_some_iff.1 hi).1 hiT hiF hj h'
          have h0 := (mem_ready.1 hr).1
          rcases Nat.lt_or_ge i listed.size with h' | h'
          · simp [h'] at h0 this; rw [h0] at this; cases this
          · simp [Array.getElem?_eq_none h'] at this
      have hS' := h3.2.1 hjT hS
      refine ⟨fun _ _ => hS', ih (listed.setIfInBounds j true) a' w' hfree' (ready_mono hr (Ne.symm hji)) h3.1 hS' ?_⟩
      rw [Array.setIfInBounds_comm _ _ hji]
      exact h3.2.2
/-- .. and one that looks at no memory. -/
theorem wpAnyT_free {i : Nat} {oi : Oper} {v : Value} (hi : ops[i]? = some oi) (hsel : ∀ (j : Nat) (o : Oper) cs b, ops[j]? = some o → o.op ≠ .select cs b)
    (hQ : ∀ c a w, Q (.panic c) (a.put oi.dst v) w → Q (.panic c) a w) :
    ∀ (fuel : Nat) (listed : Array Bool) (a : Act) (w : World),
      (∀ j oj, ops[j]? = some oj → j ≠ i → listed.getD j true = false → (∀ e ∈ oj.after, Region.binds .any e = true → e.on ≠ i) → oi.apart ops oj = true) →
      i ∈ Region.ready .any ops listed → YieldsIf P ops (fun _ => True) oi v a →
      wpAnyT P .any ops Q S T fuel (listed.setIfInBounds i true) (a.put oi.dst v) w → wpAnyT P .any ops Q S T (fuel + 1) listed a w := by
  intro fuel
  induction fuel with
  | zero =>
    intro listed a w _ hr hy H
    refine ⟨fun h => (by rw [h] at hr; cases hr), fun j hj => ?_⟩
    by_cases hji : j = i
    · subst hji; exact hy.wpOp hi trivial ⟨fun _ h => h, H⟩
    · have := ready_mono hj hji
      rw [H.1] at this
      cases this
  | succ fuel ih =>
    intro listed a w hfree hr hy H
    refine ⟨fun h => (by rw [h] at hr; cases hr), fun j hj => ?_⟩
    by_cases hji : j = i
    · subst hji; exact hy.wpOp hi trivial ⟨fun _ h => h, H⟩
    · have h1 := H.2 j (ready_mono hj hji)
      obtain ⟨hjun, oj, hoj, hall⟩ := mem_ready.1 hj
      have hnot : ∀ e ∈ oj.after, Region.binds .any e = true → e.on ≠ i := fun e he hb heq => by
        have h1 := hall e he hb
        have h0 := (mem_ready.1 hr).1
        rw [heq] at h1
        rcases Nat.lt_or_ge i listed.size with h' | h'
        · simp [h'] at h0 h1; rw [h0] at h1; cases h1
        · simp [Array.getElem?_eq_none h'] at h1
      have h2 := wpOp_putIf hoj (hfree j oj hoj hji hjun hnot) (fun cs b => hsel i oi cs b hi) (fun cs b => hsel j oj cs b hoj) hQ hy h1
      have hfree' : ∀ k ok, ops[k]? = some ok → k ≠ i → (listed.setIfInBounds j true).getD k true = false →
          (∀ e ∈ ok.after, Region.binds .any e = true → e.on ≠ i) → oi.apart ops ok = true := fun k ok hk hki hun hno => by
        refine hfree k ok hk hki ?_ hno
        by_cases hjk : j = k
        · subst hjk; exact hjun
        · rw [getD_set_ne true hjk] at hun; exact hun
      refine wpOp_mono (fun a' w' h3 => ?_) h2
      refine ⟨h3.2.1, ih (listed.setIfInBounds j true) a' w' hfree' (ready_mono hr (Ne.symm hji)) h3.1 ?_⟩
      rw [Array.setIfInBounds_comm _ _ hji]
      exact h3.2.2
end
section
variable {P : Program} {ops : Array Oper} {n : Nat} {S : World → Prop} {T F : List Nat}
theorem inL_not {T : List Nat} {i : Nat} (h : (!inL T i) = true) : inL T i = false := by simpa using h
theorem wpAnyT_of_PR {Q : Exit → Act → World → Prop} {M : Regs → World → Prop} (hsel : Region.noSelect ops = true) (ht : tailOK ops T F = true)
    (hp : ∀ c a w, ¬ Q (.panic c) a w) (hM : ∀ a r w, Fr n r a → M r w → Q .normal a w) :
    ∀ (p : List Mv) (listed : Array Bool) (r : Regs) (w : World) (a : Act), Fr n r a → planOK ops T F p listed = true → (S w ∨ ∀ i, Mv.take i ∉ p) → PR P ops n S p M r w →
      ∀ fuel, p.length ≤ fuel → wpAnyT P .any ops Q S T fuel listed a w
  | [], listed, r, w, a, ha, hok, _, h, fuel, _ => by
    have hr : Region.ready .any ops listed = [] := by simpa [planOK] using hok
    cases fuel with
    | zero => exact ⟨hr, hM a r w ha h⟩
    | succ fuel => exact ⟨fun _ => hM a r w ha h, by rw [hr]; simp⟩
  | .take i :: p, listed, r, w, a, ha, hok, hS, h, fuel, hf => by
    obtain ⟨o, d, v, ho, hd, hn, hy, hrest⟩ := h
    simp only [planOK, Bool.and_eq_true] at hok
    obtain ⟨⟨⟨⟨hT, hF⟩, hfree⟩, hready⟩, hok⟩ := hok
    have hSw : S w := hS.resolve_right fun h => h i (by simp)
    obtain ⟨fuel, rfl⟩ : ∃ m, fuel = m + 1 := ⟨fuel - 1, by simp at hf; omega⟩
    refine wpAnyT_first ht (inL_not hT) (inL_not hF) ho (Region.noSelect_spec hsel) (fun c a w h => absurd h (hp c _ w)) fuel listed a w (Region.free_spec ho hfree) (by simpa using hready) ?_ hSw ?_ (v := v)
    · unfold YieldsIf
      rw [ha.wanted ops o, ha.eval]
      exact hy
    · rw [hd]
      exact wpAnyT_of_PR hsel ht hp hM p _ _ w _ (ha.put (lt_of_blt hn) v) hok (.inl hSw) hrest fuel (by simp at hf; omega)
  | .free i :: p, listed, r, w, a, ha, hok, hS, h, fuel, hf => by
    obtain ⟨o, d, v, ho, hd, hn, hy, hrest⟩ := h
    simp only [planOK, Bool.and_eq_true] at hok
    obtain ⟨⟨hfree, hready⟩, hok⟩ := hok
    obtain ⟨fuel, rfl⟩ : ∃ m, fuel = m + 1 := ⟨fuel - 1, by simp at hf; omega⟩
    refine wpAnyT_free ho (Region.noSelect_spec hsel) (fun c a w h => absurd h (hp c _ w)) fuel listed a w (Region.free_spec ho hfree) (by simpa using hready) ?_ ?_ (v := v)
    · unfold YieldsIf
      rw [ha.wanted ops o, ha.eval]
      exact hy
    · rw [hd]
      exact wpAnyT_of_PR hsel ht hp hM p _ _ w _ (ha.put (lt_of_blt hn) v) hok (hS.imp id fun h i hi => h i (by simp [hi])) hrest fuel (by simp at hf; omega)
  | .run i :: p, listed, r, w, a, ha, hok, hS, h, fuel, hf => by
    obtain ⟨o, ho, hop⟩ := h
    simp only [planOK, Bool.and_eq_true, beq_iff_eq] at hok
    obtain ⟨⟨hT, hready⟩, hok⟩ := hok
    obtain ⟨fuel, rfl⟩ : ∃ m, fuel = m + 1 := ⟨fuel - 1, by simp at hf; omega⟩
    refine ⟨fun h => (by rw [h] at hready; cases hready), fun j hj => ?_⟩
    rw [hready] at hj
    obtain rfl : j = i := by simpa using hj
    unfold wpOp
    simp only [ho]
    have := hop Q (fun a' w' => (inL T j = false → S w → S w') ∧ wpAnyT P .any ops Q S T fuel (listed.setIfInBounds j true) a' w') a ha fun a' r' w' hr hk =>
      ⟨fun _ _ => hk.1, wpAnyT_of_PR hsel ht hp hM p _ r' w' a' hr hok (.inl hk.1) hk.2 fuel (by simp at hf; omega)⟩
    rw [ha.wanted ops o]
    split
    · rename_i hw; rw [if_pos hw] at this; exact .inl this
    · rename_i hw; rw [if_neg hw] at this; exact this
  | .tail i :: p, listed, r, w, a, ha, hok, hS, h, fuel, hf => by
    obtain ⟨o, ho, hop⟩ := h
    simp only [planOK, Bool.and_eq_true, beq_iff_eq] at hok
    obtain ⟨⟨⟨hready, hT⟩, hnt⟩, hok⟩ := hok
    obtain ⟨fuel, rfl⟩ : ∃ m, fuel = m + 1 := ⟨fuel - 1, by simp at hf; omega⟩
    refine ⟨fun h => (by rw [h] at hready; cases hready), fun j hj => ?_⟩
    rw [hready] at hj
    obtain rfl : j = i := by simpa using hj
    unfold wpOp
    simp only [ho]
    have := hop Q (fun a' w' => (inL T j = false → S w → S w') ∧ wpAnyT P .any ops Q S T fuel (listed.setIfInBounds j true) a' w') a ha fun a' r' w' hr hk =>
      ⟨fun h => (by rw [hT] at h; cases h), wpAnyT_of_PR hsel ht hp hM p _ r' w' a' hr hok (.inr fun i' hi' => ?_) hk fuel (by simp at hf; omega)⟩
    · rw [ha.wanted ops o]
      split
      · rename_i hw; rw [if_pos hw] at this; exact .inl this
      · rename_i hw; rw [if_neg hw] at this; exact this
    · have := List.all_eq_true.1 hnt _ hi'
      cases this
theorem W_draw {id : Nat} {Q : Post} {r : Regs} {w : World} {l : List Oper} (p : List Mv) (S : World → Prop) (T F : List Nat) (hm : P.follows .mixedOrders = true)
    (hsel : Region.noSelect l.toArray = true) (ht : tailOK l.toArray T F = true) (hok : planOK l.toArray T F p (Array.replicate l.toArray.size false) = true) (hlen : Nat.ble p.length l.toArray.size = true)
    (hS : S { w with drawn := w.drawn + 1 }) (h : PR P l.toArray n S p (fun r w => Q .normal r w) r { w with drawn := w.drawn + 1 }) : W P n (.region id l.toArray true) Q r w :=
  fun a ha => wp_region_any hm (wpAny_of_T _ _ _ _ (wpAnyT_of_PR (Q := lift n Q) hsel ht (fun _ _ _ h => h) (fun a' r' w' hr hk => ⟨r', hr, hk⟩) p _ r _ a ha hok (.inl hS) h _ (Nat.le_of_ble_eq_true hlen)))
end

/-! ### .. in more than one order -/
inductive PT where
  | lin (p : List Mv)
  | take (i : Nat) (t : PT)
  | free (i : Nat) (t : PT)
  | all (u : PT)
  | br (i : Nat) (t u : PT)
  | stop
def PT.heads : PT → List Nat
  | .br i _ u => i :: u.heads
  | _ => []
def PT.isMain : PT → Bool
  | .lin _ => true
  | .take _ _ => true
  | .free _ _ => true
  | .all _ => true
  | _ => false
def PT.depth : PT → Nat
  | .lin p => p.length
  | .take _ t => t.depth + 1
  | .free _ t => t.depth + 1
  | .all u => u.depth
  | .br _ t u => max (t.depth + 1) u.depth
  | .stop => 0
def treeOK (ops : Array Oper) (T F : List Nat) : PT → Array Bool → Bool
  | .lin p, listed => planOK ops T F p listed
  | .take i t, listed => !inL T i && !inL F i && Region.free .any ops listed i && (Region.ready .any ops listed).contains i && (t.isMain && treeOK ops T F t (listed.setIfInBounds i true))
  | .free i t, listed => Region.free .any ops listed i && (Region.ready .any ops listed).contains i && (t.isMain && treeOK ops T F t (listed.setIfInBounds i true))
  | .all u, listed => ((Region.ready .any ops listed).all fun i => u.heads.contains i) && !(Region.ready .any ops listed).isEmpty && treeOK ops T F u listed
  | .br i t u, listed => !inL T i && (t.isMain && treeOK ops T F t (listed.setIfInBounds i true)) && treeOK ops T F u listed
  | .stop, _ => true
def PRT (P : Program) (ops : Array Oper) (n : Nat) (S : World → Prop) : PT → (Regs → World → Prop) → Regs → World → Prop
  | .lin p, M, r, w => PR P ops n S p M r w
  | .take i t, M, r, w => ∃ o d v, ops[i]? = some o ∧ o.dst = some d ∧ Nat.blt d n = true ∧
      ((wantedR ops r o = true ∧ ∀ w', S w' → (execOp (ev r) o).run P w' = .ok (.value v) w') ∨ (wantedR ops r o = false ∧ v = undef)) ∧ PRT P ops n S t M (upd r d v) w
  | .free i t, M, r, w => ∃ o d v, ops[i]? = some o ∧ o.dst = some d ∧ Nat.blt d n = true ∧
      ((wantedR ops r o = true ∧ ∀ w' : World, True → (execOp (ev r) o).run P w' = .ok (.value v) w') ∨ (wantedR ops r o = false ∧ v = undef)) ∧ PRT P ops n S t M (upd r d v) w
  | .all u, M, r, w => PRT P ops n S u M r w
  | .br i t u, M, r, w => (∃ o, ops[i]? = some o ∧ OpR P ops n o r w fun r' w' => S w' ∧ PRT P ops n S t M r' w') ∧ PRT P ops n S u M r w
  | .stop, _, _, _ => True
section
variable {P : Program} {ops : Array Oper} {n : Nat} {S : World → Prop} {T F : List Nat}
theorem wpAnyT_of_PRT {Q : Exit → Act → World → Prop} {M : Regs → World → Prop} (hsel : Region.noSelect ops = true) (ht : tailOK ops T F = true)
    (hp : ∀ c a w, ¬ Q (.panic c) a w) (hM : ∀ a r w, Fr n r a → M r w → Q .normal a w) :
    ∀ (t : PT), (t.isMain = true → ∀ (listed : Array Bool) (r : Regs) (w : World) (a : Act), Fr n r a → treeOK ops T F t listed = true → S w → PRT P ops n S t M r w →
      ∀ fuel, t.depth ≤ fuel → wpAnyT P .any ops Q S T fuel listed a w) ∧
      (∀ (listed : Array Bool) (r : Regs) (w : World) (a : Act), Fr n r a → treeOK ops T F t listed = true → PRT P ops n S t M r w →
        ∀ fuel, t.depth ≤ fuel + 1 → ∀ j ∈ t.heads, wpOp P ops Q j (fun a' w' => (inL T j = false → S w → S w') ∧ wpAnyT P .any ops Q S T fuel (listed.setIfInBounds j true) a' w') a w) := by
  intro t
  induction t with
  | lin p =>
    refine ⟨fun _ listed r w a ha hok hS h fuel hf => wpAnyT_of_PR hsel ht hp hM p listed r w a ha hok (.inl hS) h fuel hf, ?_⟩
    intro listed r w a ha hok h fuel hf j hj; cases hj
  | stop =>
    refine ⟨fun h => (by cases h), ?_⟩
    intro listed r w a ha hok h fuel hf j hj; cases hj
  | take i t ih =>
    refine ⟨fun _ listed r w a ha hok hS h fuel hf => ?_, ?_⟩
    · obtain ⟨o, d, v, ho, hd, hn, hy, hrest⟩ := h
      simp only [treeOK, Bool.and_eq_true] at hok
      obtain ⟨⟨⟨⟨hT, hF⟩, hfree⟩, hready⟩, hmain, hok⟩ := hok
      simp only [PT.depth] at hf
      obtain ⟨fuel, rfl⟩ : ∃ m, fuel = m + 1 := ⟨fuel - 1, by omega⟩
      refine wpAnyT_first ht (inL_not hT) (inL_not hF) ho (Region.noSelect_spec hsel) (fun c a w h => absurd h (hp c _ w)) fuel listed a w (Region.free_spec ho hfree) (by simpa using hready) ?_ hS ?_ (v := v)
      · unfold YieldsIf
        rw [ha.wanted ops o, ha.eval]
        exact hy
      · rw [hd]
        exact ih.1 hmain _ _ w _ (ha.put (lt_of_blt hn) v) hok hS hrest fuel (by omega)
    · intro listed r w a ha hok h fuel hf j hj; cases hj
  | free i t ih =>
    refine ⟨fun _ listed r w a ha hok hS h fuel hf => ?_, ?_⟩
    · obtain ⟨o, d, v, ho, hd, hn, hy, hrest⟩ := h
      simp only [treeOK, Bool.and_eq_true] at hok
      obtain ⟨⟨hfree, hready⟩, hmain, hok⟩ := hok
      simp only [PT.depth] at hf
      obtain ⟨fuel, rfl⟩ : ∃ m, fuel = m + 1 := ⟨fuel - 1, by omega⟩
      refine wpAnyT_free ho (Region.noSelect_spec hsel) (fun c a w h => absurd h (hp c _ w)) fuel listed a w (Region.free_spec ho hfree) (by simpa using hready) ?_ ?_ (v := v)
      · unfold YieldsIf
        rw [ha.wanted ops o, ha.eval]
        exact hy
      · rw [hd]
        exact ih.1 hmain _ _ w _ (ha.put (lt_of_blt hn) v) hok hS hrest fuel (by omega)
    · intro listed r w a ha hok h fuel hf j hj; cases hj
  | all u ih =>
    refine ⟨fun _ listed r w a ha hok hS h fuel hf => ?_, ?_⟩
    · simp only [treeOK, Bool.and_eq_true] at hok
      obtain ⟨⟨hall, hne⟩, hok⟩ := hok
      simp only [PT.depth] at hf
      have hne' : Region.ready .any ops listed ≠ [] := by
        intro h0; rw [h0] at hne; cases hne
      have hin : ∀ j ∈ Region.ready .any ops listed, j ∈ u.heads := fun j hj => by
        have := List.all_eq_true.1 hall j hj
        simpa using this
      have hd : 0 < u.depth := by
        cases hr : Region.ready .any ops listed with
        | nil => exact absurd hr hne'
        | cons j l =>
          have hj := hin j (by rw [hr]; simp)
          cases u with
          | br i t u => simp only [PT.depth]; omega
          | lin p => cases hj
          | take i t => cases hj
          | free i t => cases hj
          | all u => cases hj
          | stop => cases hj
      obtain ⟨fuel, rfl⟩ : ∃ m, fuel = m + 1 := ⟨fuel - 1, by omega⟩
      exact ⟨fun h0 => absurd h0 hne', fun j hj => ih.2 listed r w a ha hok h fuel hf j (hin j hj)⟩
    · intro listed r w a ha hok h fuel hf j hj; cases hj
  | br i t u iht ihu =>
    refine ⟨fun h => (by cases h), ?_⟩
    intro listed r w a ha hok h fuel hf j hj
    simp only [treeOK, Bool.and_eq_true] at hok
    obtain ⟨⟨hN, hmain, hok1⟩, hok2⟩ := hok
    obtain ⟨⟨o, ho, hop⟩, hu⟩ := h
    simp only [PT.depth] at hf
    rcases List.mem_cons.1 hj with rfl | hj
    · unfold wpOp
      simp only [ho]
      have := hop Q (fun a' w' => (inL T j = false → S w → S w') ∧ wpAnyT P .any ops Q S T fuel (listed.setIfInBounds j true) a' w') a ha fun a' r' w' hr hk =>
        ⟨fun _ _ => hk.1, iht.1 hmain _ r' w' a' hr hok1 hk.1 hk.2 fuel (by omega)⟩
      rw [ha.wanted ops o]
      split
      · rename_i hw; rw [if_pos hw] at this; exact .inl this
      · rename_i hw; rw [if_neg hw] at this; exact this
    · exact ihu.2 listed r w a ha hok2 hu fuel (by omega) j hj
theorem W_drawT {id : Nat} {Q : Post} {r : Regs} {w : World} {l : List Oper} (t : PT) (S : World → Prop) (T F : List Nat) (hm : P.follows .mixedOrders = true)
    (hsel : Region.noSelect l.toArray = true) (ht : tailOK l.toArray T F = true) (hok : (t.isMain && treeOK l.toArray T F t (Array.replicate l.toArray.size false)) = true) (hlen : Nat.ble t.depth l.toArray.size = true)
    (hS : S { w with drawn := w.drawn + 1 }) (h : PRT P l.toArray n S t (fun r w => Q .normal r w) r { w with drawn := w.drawn + 1 }) : W P n (.region id l.toArray true) Q r w :=
  fun a ha => by
    have hok' := Bool.and_eq_true_iff.1 hok
    exact wp_region_any hm (wpAny_of_T _ _ _ _ ((wpAnyT_of_PRT (Q := lift n Q) hsel ht (fun _ _ _ h => h) (fun a' r' w' hr hk => ⟨r', hr, hk⟩) t).1 hok'.1 _ r _ a ha hok'.2 hS h _ (Nat.le_of_ble_eq_true hlen)))
/-- A meeting of orders: what is shown of it first is used in all of them. -/
theorem PRT_meet {M : Regs → World → Prop} {r : Regs} {w : World} {p : PT} (J : Regs → World → Prop) (q : PT) (h1 : (∀ r w, J r w → PRT P ops n S q M r w) → PRT P ops n S p M r w) (h2 : ∀ r w, J r w → PRT P ops n S q M r w) : PRT P ops n S p M r w := h1 h2
theorem PRT_take {M : Regs → World → Prop} {r : Regs} {w : World} {t : PT} {i d : Nat} {o : Oper} {v : Value} (ho : ops[i]? = some o) (hd : o.dst = some d) (hn : Nat.blt d n = true) (hw : wantedR ops r o = true) (hrun : ∀ w', S w' → (execOp (ev r) o).run P w' = .ok (.value v) w')
    (h : PRT P ops n S t M (upd r d v) w) : PRT P ops n S (.take i t) M r w := ⟨o, d, v, ho, hd, hn, .inl ⟨hw, hrun⟩, h⟩
theorem PRT_free {M : Regs → World → Prop} {r : Regs} {w : World} {t : PT} {i d : Nat} {o : Oper} {v : Value} (ho : ops[i]? = some o) (hd : o.dst = some d) (hn : Nat.blt d n = true) (hw : wantedR ops r o = true) (hrun : ∀ w', (execOp (ev r) o).run P w' = .ok (.value v) w')
    (h : PRT P ops n S t M (upd r d v) w) : PRT P ops n S (.free i t) M r w := ⟨o, d, v, ho, hd, hn, .inl ⟨hw, fun w' _ => hrun w'⟩, h⟩
theorem PRT_br {M : Regs → World → Prop} {r : Regs} {w : World} {t u : PT} {i : Nat} {o : Oper} (ho : ops[i]? = some o) (h : OpR P ops n o r w fun r' w' => S w' ∧ PRT P ops n S t M r' w') (hu : PRT P ops n S u M r w) : PRT P ops n S (.br i t u) M r w := ⟨⟨o, ho, h⟩, hu⟩
theorem PRT_all {M : Regs → World → Prop} {r : Regs} {w : World} {u : PT} (h : PRT P ops n S u M r w) : PRT P ops n S (.all u) M r w := h
theorem PRT_stop {M : Regs → World → Prop} {r : Regs} {w : World} : PRT P ops n S .stop M r w := trivial
theorem PRT_lin {M : Regs → World → Prop} {r : Regs} {w : World} {p : List Mv} (h : PR P ops n S p M r w) : PRT P ops n S (.lin p) M r w := h
end
end Go.Proofs.YtobkigllalbkiaaV

/- Memory for the small logic: what a call owns, what it may read; kept over every change that it makes. Nothing here names a program. -/
set_option linter.unusedVariables false
set_option linter.unusedSimpArgs false
namespace Go.Proofs.YtobkigllalbkiaaV
open Go.RowKit

theorem lt_of_heap {w : World} {b : Nat} {o : Obj} (h : w.heap[b]? = some o) : b < w.heap.size := by
  rcases Nat.lt_or_ge b w.heap.size with h' | h'
  · exact h'
  · rw [Array.getElem?_eq_none h'] at h; cases h

/-- No part of the block is shut. What may be read (a block, by its number and what it is), and which older blocks may be written. -/
def unfz : Obj → Prop
  | .cells _ _ fr => fr = (0, 0)
  | _ => True
structure Okp where
  rd : Nat → Obj → Prop
  wr : Nat → Prop
  wrd : ∀ b ob, wr b → unfz ob → rd b ob
def okT : Okp := ⟨fun _ _ => True, fun _ => False, fun _ _ h => h.elim⟩
def At (w : World) (ok : Okp) (g : Nat) : Prop := ∃ ob, w.heap[g]? = some ob ∧ ok.rd g ob
theorem At.lt {w : World} {ok : Okp} {g : Nat} (h : At w ok g) : g < w.heap.size := by obtain ⟨ob, h, _⟩ := h; exact lt_of_heap h
theorem at_any {w : World} {g : Nat} {o : Obj} (h : w.heap[g]? = some o) : At w okT g := ⟨o, h, trivial⟩
/-- What 'ok' lets in stays as it is, and is let in by ok'. -/
structure Mov (w w' : World) (ok ok' : Okp) : Prop where
  size : w.heap.size ≤ w'.heap.size
  at_ : ∀ b ob, w.heap[b]? = some ob → ok.rd b ob → ok'.rd b ob ∧ w'.heap[b]? = w.heap[b]?
theorem Mov.at' {w w' : World} {ok ok' : Okp} (hm : Mov w w' ok ok') {g : Nat} (h : At w ok g) : At w' ok' g ∧ w'.heap[g]? = w.heap[g]? := by
  obtain ⟨ob, h1, h2⟩ := h
  obtain ⟨h3, h4⟩ := hm.at_ g ob h1 h2
  exact ⟨⟨ob, h4.trans h1, h3⟩, h4⟩
structure RE where
  rel : World → Okp → Prop
  keep : ∀ {w w' : World} {ok ok' : Okp}, rel w ok → Mov w w' ok ok' → rel w' ok'
structure Kd (α : Type) where
  sz : Nat
  rel : World → Okp → List Value → α → Prop
  len : ∀ {w : World} {ok : Okp} {cs : List Value} {x : α}, rel w ok cs x → cs.length = sz
  one : ∀ {w : World} {ok : Okp} {cs : List Value} {x : α}, rel w ok cs x → ∀ v ∈ cs, v.oneCell' = true
  keep : ∀ {w w' : World} {ok ok' : Okp} {cs : List Value} {x : α}, rel w ok cs x → Mov w w' ok ok' → rel w' ok' cs x

/-- These cells lie there. -/
def CellsAt (w : World) (g o : Nat) (cs : List Value) : Prop := ∀ j v, cs[j]? = some v → w.cell? ⟨g, o + j, none⟩ = some v
theorem CellsAt.keep {w w' : World} {g o : Nat} {cs : List Value} (h : CellsAt w g o cs) (hb : w'.heap[g]? = w.heap[g]?) : CellsAt w' g o cs :=
  fun j v hj => by
    have : w'.cell? ⟨g, o + j, none⟩ = w.cell? ⟨g, o + j, none⟩ := World.cell?_of_block (a := ⟨g, o + j, none⟩) hb
    rw [this]; exact h j v hj
theorem CellsAt.of_heap {w : World} {g o : Nat} {cs cur : List Value} {t : TypeId} {fr : Nat × Nat} (hg : w.heap[g]? = some (.cells cur.toArray t fr)) (h : ∀ j v, cs[j]? = some v → cur[o + j]? = some v) : CellsAt w g o cs :=
  fun j v hj => by
    have := h j v hj
    simp [World.cell?, hg, this]
/-- A slice that may be read. -/
def Rd {α : Type} (K : Kd α) (w : World) (ok : Okp) (A : Option Addr) (c : Nat) (xs : List α) : Prop :=
  xs.length ≤ c ∧ c ≤ 9223372036854775807 ∧ (xs ≠ [] → ∃ g o, A = some ⟨g, o, none⟩ ∧ At w ok g ∧
    ∀ (i : Nat) (x : α), xs[i]? = some x → ∃ cs, K.rel w ok cs x ∧ CellsAt w g (o + i * K.sz) cs)
theorem Rd.keep {α : Type} {K : Kd α} {w w' : World} {ok ok' : Okp} {A : Option Addr} {c : Nat} {xs : List α} (h : Rd K w ok A c xs) (hm : Mov w w' ok ok') : Rd K w' ok' A c xs := by
  refine ⟨h.1, h.2.1, fun hne => ?_⟩
  obtain ⟨g, o, rfl, hg, hx⟩ := h.2.2 hne
  obtain ⟨h1, h2⟩ := hm.at' hg
  refine ⟨g, o, rfl, h1, fun i x hi => ?_⟩
  obtain ⟨cs, hk, hc⟩ := hx i x hi
  exact ⟨cs, K.keep hk hm, hc.keep h2⟩
def RE.rd {α : Type} (K : Kd α) (A : Option Addr) (c : Nat) (xs : List α) : RE := ⟨fun w ok => Rd K w ok A c xs, fun h hm => h.keep hm⟩
/-- Cells that lie in memory that may be read. -/
def RE.cells (g o : Nat) (cs : List Value) : RE := ⟨fun w ok => At w ok g ∧ CellsAt w g o cs, fun h hm => ⟨(hm.at' h.1).1, h.2.keep (hm.at' h.1).2⟩⟩
/-- Cells, element by element. -/
def Chunks {α : Type} (K : Kd α) (w : World) (ok : Okp) : List Value → List α → Prop
  | cs, [] => cs = []
  | cs, x :: xs => K.rel w ok (cs.take K.sz) x ∧ Chunks K w ok (cs.drop K.sz) xs
theorem Chunks.keep {α : Type} {K : Kd α} {w w' : World} {ok ok' : Okp} (hm : Mov w w' ok ok') : ∀ {cs : List Value} {xs : List α}, Chunks K w ok cs xs → Chunks K w' ok' cs xs
  | _, [], h => h
  | _, _ :: _, h => ⟨K.keep h.1 hm, Chunks.keep hm h.2⟩
def RE.hole : RE := ⟨fun _ _ => True, fun _ _ => trivial⟩
def RE.chunks {α : Type} (K : Kd α) (cs : List Value) (xs : List α) : RE := ⟨fun w ok => Chunks K w ok cs xs, fun h hm => h.keep hm⟩
theorem Chunks.len {α : Type} {K : Kd α} {w : World} {ok : Okp} : ∀ {cs : List Value} {xs : List α}, Chunks K w ok cs xs → cs.length = xs.length * K.sz
  | _, [], h => by
    have : _ = [] := h
    simp [this]
  | cs, x :: xs, h => by
    have h1 := K.len h.1
    have h2 := Chunks.len h.2
    rw [List.length_take] at h1
    rw [List.length_drop] at h2
    rw [List.length_cons, Nat.add_mul]
    omega
theorem Chunks.one {α : Type} {K : Kd α} {w : World} {ok : Okp} : ∀ {cs : List Value} {xs : List α}, Chunks K w ok cs xs → ∀ v ∈ cs, v.oneCell' = true
  | _, [], h, v, hv => by
    have : _ = [] := h
    rw [this] at hv; cases hv
  | cs, x :: xs, h, v, hv => by
    rw [← List.take_append_drop K.sz cs, List.mem_append] at hv
    rcases hv with hv | hv
    · exact K.one h.1 v hv
    · exact Chunks.one h.2 v hv
theorem Chunks.nil {α : Type} {K : Kd α} {w : World} {ok : Okp} : Chunks K w ok [] [] := rfl
theorem Chunks.snoc {α : Type} {K : Kd α} {w : World} {ok : Okp} : ∀ {cs : List Value} {xs : List α} {ce : List Value} {x : α}, Chunks K w ok cs xs → K.rel w ok ce x → Chunks K w ok (cs ++ ce) (xs ++ [x])
  | cs, [], ce, x, h, hx => by
    have h0 : cs = [] := h
    subst h0
    have hl := K.len hx
    refine ⟨?_, ?_⟩
    · rw [List.nil_append, List.take_of_length_le (by omega)]; exact hx
    · show _ = []
      rw [List.nil_append, List.drop_eq_nil_of_le (by omega)]
  | cs, y :: xs, ce, x, h, hx => by
    have hl := K.len h.1
    rw [List.length_take] at hl
    have hle : K.sz ≤ cs.length := by omega
    refine ⟨?_, ?_⟩
    · rw [List.take_append_of_le_length hle]; exact h.1
    · rw [List.drop_append_of_le_length hle]; exact Chunks.snoc h.2 hx
theorem Chunks.at_ {α : Type} {K : Kd α} {w : World} {ok : Okp} : ∀ {cs : List Value} {xs : List α}, Chunks K w ok cs xs → ∀ (i : Nat) (x : α), xs[i]? = some x → K.rel w ok ((cs.drop (i * K.sz)).take K.sz) x
  | cs, [], h, i, x, hi => by simp at hi
  | cs, y :: xs, h, 0, x, hi => by
    simp at hi; subst hi
    simpa using h.1
  | cs, y :: xs, h, i + 1, x, hi => by
    have := Chunks.at_ h.2 i x (by simpa using hi)
    rwa [List.drop_drop, show K.sz + i * K.sz = (i + 1) * K.sz by rw [Nat.add_mul, Nat.one_mul, Nat.add_comm]] at this

/-- A set of pairs of numbers, as a map's entries. -/
def hkey (h : Int × Int) : Value := .agg #[.int .i64 h.1, .int .i64 h.2]
def SetRel (es : Array MapEntry) (hs : List (Int × Int)) : Prop := es.toList.map (fun e => (e.key, e.val)) = hs.map fun h => (hkey h, Value.bool true)
inductive Ent where
  | blk (b t : Nat) (cs : List Value)
  | row (v : Value) (t sz n : Nat) (cs : List Value)
  | obj (b : Nat) (o : Obj)
  | mset (b : Nat) (hs : List (Int × Int))
  | rows (t sz : Nat) (rs : List (Value × Nat × List Value))
  | hole
def Ent.blks : Ent → List Nat
  | .blk b _ _ => [b]
  | .row v _ _ _ _ => v.ownBlock.toList
  | .obj b _ => [b]
  | .mset b _ => [b]
  | .rows _ _ rs => rs.flatMap fun r => r.1.ownBlock.toList
  | .hole => []
def Ent.ok (w : World) : Ent → Prop
  | .blk b t cs => w.heap[b]? = some (.cells cs.toArray t (0, 0))
  | .row v t sz n cs => w.ownsRow 0 t sz v n cs
  | .obj b o => w.heap[b]? = some o
  | .mset b hs => ∃ es clock, w.heap[b]? = some (.map es clock) ∧ SetRel es hs
  | .rows t sz rs => ∀ r ∈ rs, w.ownsRow 0 t sz r.1 r.2.1 r.2.2
  | .hole => True
theorem ownsRow_keep {w w' : World} {v : Value} {t sz n : Nat} {cs : List Value} (h : w.ownsRow 0 t sz v n cs) (hb : ∀ b ∈ v.ownBlock.toList, w'.heap[b]? = w.heap[b]?) : w'.ownsRow 0 t sz v n cs := by
  refine ⟨h.1, ?_⟩
  rcases h.2 with h2 | ⟨g, cap, cur, rfl, h3, h4, h5⟩
  · exact .inl h2
  · exact .inr ⟨g, cap, cur, rfl, h3, (hb g (by simp [Value.ownBlock])).trans h4, h5⟩
theorem Ent.keep {w w' : World} {e : Ent} (h : e.ok w) (hb : ∀ b ∈ e.blks, w'.heap[b]? = w.heap[b]?) : e.ok w' := by
  cases e with
  | blk b t cs => exact (hb b (by simp [Ent.blks])).trans h
  | obj b o => exact (hb b (by simp [Ent.blks])).trans h
  | mset b hs =>
    obtain ⟨es, clock, h1, h2⟩ := h
    exact ⟨es, clock, (hb b (by simp [Ent.blks])).trans h1, h2⟩
  | rows t sz rs => exact fun r hr => ownsRow_keep (h r hr) fun b hb' => hb b (List.mem_flatMap.2 ⟨r, hr, hb'⟩)
  | hole => trivial
  | row v t sz n cs => exact ownsRow_keep h hb
def blks : List Ent → List Nat
  | [] => []
  | e :: L => e.blks ++ blks L
theorem mem_blks {L : List Ent} {i : Nat} {e : Ent} (h : L[i]? = some e) {b : Nat} (hb : b ∈ e.blks) : b ∈ blks L := by
  induction L generalizing i with
  | nil => simp at h
  | cons x L ih =>
    cases i with
    | zero => simp at h; subst h; exact List.mem_append.2 (.inl hb)
    | succ i => exact List.mem_append.2 (.inr (ih (by simpa using h)))
theorem blks_append (L M : List Ent) : blks (L ++ M) = blks L ++ blks M := by
  induction L with
  | nil => rfl
  | cons x L ih => simp [blks, ih]
theorem of_mem_blks {L : List Ent} {b : Nat} (h : b ∈ blks L) : ∃ (i : Nat) (e : Ent), L[i]? = some e ∧ b ∈ e.blks := by
  induction L with
  | nil => cases h
  | cons x L ih =>
    rcases List.mem_append.1 h with h | h
    · exact ⟨0, x, rfl, h⟩
    · obtain ⟨i, e, hi, hb⟩ := ih h
      exact ⟨i + 1, e, by simpa using hi, hb⟩
def okS (ok0 : Okp) (w0 : World) (L : List Ent) : Okp := ⟨fun b ob => b ∉ blks L ∧ (ok0.rd b ob ∨ (w0.heap.size ≤ b ∧ unfz ob)), fun _ => False, fun _ _ h => h.elim⟩

/-- Of what was there nothing has turned but what may be written. -/
structure BelowX (X : Nat → Prop) (w w' : World) : Prop where
  os : w'.os = w.os
  tape : w'.tape = w.tape
  output : w'.output = w.output
  size : w.heap.size ≤ w'.heap.size
  block : ∀ k, k < w.heap.size → ¬ X k → w'.heap[k]? = w.heap[k]?
theorem BelowX.refl (X : Nat → Prop) (w : World) : BelowX X w w := ⟨rfl, rfl, rfl, Nat.le_refl _, fun _ _ _ => rfl⟩
theorem BelowX.below {X : Nat → Prop} {w w' : World} (h : BelowX X w w') (hx : ∀ k, ¬ X k) : Below w.heap.size w w' := ⟨h.os, h.tape, h.output, h.size, fun k hk => h.block k hk (hx k)⟩
/-- From w0 on, a call has come to w: the things of its own (each in memory of its own, new since w0), and what may be read (of what was let in at w0, or new). -/
structure Sep (ok0 : Okp) (w0 w : World) (L : List Ent) (Rs : List RE) : Prop where
  bas : BelowX ok0.wr w0 w
  ents : ∀ (i : Nat) (e : Ent), L[i]? = some e → e.ok w
  ge : ∀ b ∈ blks L, (w0.heap.size ≤ b ∨ ok0.wr b) ∧ b < w.heap.size
  nodup : (blks L).Nodup
  rds : ∀ (i : Nat) (re : RE), Rs[i]? = some re → re.rel w (okS ok0 w0 L)

section
variable {ok0 : Okp} {w0 w w' : World} {L L' : List Ent} {Rs : List RE}
theorem Sep.le (h : Sep ok0 w0 w L Rs) : w0.heap.size ≤ w.heap.size := h.bas.size
theorem Sep.base (h : Sep ok0 w0 w L Rs) (hx : ∀ k, ¬ ok0.wr k := by intro k hk; exact hk) : Below w0.heap.size w0 w := h.bas.below hx
theorem Sep.start (ok0 : Okp) (w : World) : Sep ok0 w w [] [] :=
  ⟨BelowX.refl _ _, fun i e h => by simp at h, fun b hb => by simp [blks] at hb, List.nodup_nil, fun i re hi => by simp at hi⟩
theorem Sep.step (h : Sep ok0 w0 w L Rs) (hb : BelowX ok0.wr w0 w') (hs : w.heap.size ≤ w'.heap.size) (hent : ∀ (i : Nat) (e : Ent), L'[i]? = some e → e.ok w')
    (hge : ∀ b ∈ blks L', (w0.heap.size ≤ b ∨ ok0.wr b) ∧ b < w'.heap.size) (hnd : (blks L').Nodup)
    (hmov : ∀ b, b ∉ blks L → b < w.heap.size → b ∉ blks L' ∧ w'.heap[b]? = w.heap[b]?) : Sep ok0 w0 w' L' Rs :=
  ⟨hb, hent, hge, hnd, fun i re hi => re.keep (h.rds i re hi) ⟨hs, fun b ob ho hb' => ⟨⟨(hmov b hb'.1 (lt_of_heap ho)).1, hb'.2⟩, (hmov b hb'.1 (lt_of_heap ho)).2⟩⟩⟩
theorem Sep.drew (h : Sep ok0 w0 w L Rs) : Sep ok0 w0 { w with drawn := w.drawn + 1 } L Rs :=
  h.step ⟨h.bas.os, h.bas.tape, h.bas.output, h.bas.size, h.bas.block⟩ (Nat.le_refl _) (fun i e hi => Ent.keep (h.ents i e hi) fun _ _ => rfl) h.ge h.nodup fun b hb _ => ⟨hb, rfl⟩
/-- A callee that turned nothing that was there. -/
theorem Sep.below (h : Sep ok0 w0 w L Rs) (hw : Below w.heap.size w w') : Sep ok0 w0 w' L Rs := by
  have hle := h.bas.size
  refine h.step ⟨hw.os.trans h.bas.os, hw.tape.trans h.bas.tape, hw.output.trans h.bas.output, Nat.le_trans h.bas.size hw.size, fun k hk hx => (hw.block k (by omega)).trans (h.bas.block k hk hx)⟩ hw.size
    (fun i e hi => Ent.keep (h.ents i e hi) fun b hb => hw.block b (h.ge b (mem_blks hi hb)).2) (fun b hb => ⟨(h.ge b hb).1, Nat.lt_of_lt_of_le (h.ge b hb).2 hw.size⟩) h.nodup fun b hb hl => ⟨hb, hw.block b hl⟩
theorem nodup_app {l m : List Nat} (h1 : l.Nodup) (h2 : m.Nodup) (h : ∀ x ∈ m, x ∉ l) : (l ++ m).Nodup := by
  rw [List.nodup_append]
  exact ⟨h1, h2, fun a ha b hb hab => h b hb (hab ▸ ha)⟩
/-- A new thing of the call's own, in new memory. -/
theorem Sep.push (h : Sep ok0 w0 w L Rs) (e : Ent) (hw : Below w.heap.size w w') (he : e.ok w') (hge : ∀ b ∈ e.blks, w.heap.size ≤ b ∧ b < w'.heap.size) (hnd : e.blks.Nodup) : Sep ok0 w0 w' (L ++ [e]) Rs := by
  have h1 := h.below hw
  have hle := h.bas.size
  refine h.step h1.bas hw.size ?_ ?_ ?_ ?_
  · intro i e' hi
    rcases Nat.lt_or_ge i L.length with hl | hl
    · rw [List.getElem?_append_left hl] at hi; exact h1.ents i e' hi
    · rw [List.getElem?_append_right hl] at hi
      rcases Nat.eq_zero_or_pos (i - L.length) with h0 | h0
      · rw [h0] at hi; simp at hi; subst hi; exact he
      · obtain ⟨m, hm⟩ : ∃ m, i - L.length = m + 1 := ⟨i - L.length - 1, by omega⟩
        rw [hm] at hi; simp at hi
  · intro b hb
    rw [blks_append, List.mem_append] at hb
    rcases hb with hb | hb
    · exact h1.ge b hb
    · have := hge b (by simpa [blks] using hb)
      exact ⟨.inl (by omega), this.2⟩
  · rw [blks_append]
    refine nodup_app h.nodup (by simpa [blks] using hnd) fun x hx hx' => ?_
    have := (hge x (by simpa [blks] using hx)).1
    have := (h.ge x hx').2
    omega
  · intro b hb hl
    refine ⟨?_, hw.block b hl⟩
    rw [blks_append, List.mem_append]
    rintro (hb' | hb')
    · exact hb hb'
    · have := (hge b (by simpa [blks] using hb')).1
      omega
theorem below_alloc (w : World) (o : Obj) : Below w.heap.size w (w.alloc o) := (Below.refl _ w).alloc (Nat.le_refl _) o
theorem Sep.alloc (h : Sep ok0 w0 w L Rs) (t : TypeId) (cs : List Value) : Sep ok0 w0 (w.alloc (.cells cs.toArray t)) (L ++ [.blk w.heap.size t cs]) Rs :=
  h.push _ (below_alloc w _) (heap_alloc_new w _) (by simp [Ent.blks]) (by simp [Ent.blks])
theorem Sep.allocObj (h : Sep ok0 w0 w L Rs) (o : Obj) : Sep ok0 w0 (w.alloc o) (L ++ [.obj w.heap.size o]) Rs :=
  h.push _ (below_alloc w _) (heap_alloc_new w _) (by simp [Ent.blks]) (by simp [Ent.blks])
/-- Another slice that may be read. -/
theorem Sep.also (h : Sep ok0 w0 w L Rs) {re : RE} (hr : re.rel w (okS ok0 w0 L)) : Sep ok0 w0 w L (Rs ++ [re]) :=
  ⟨h.bas, h.ents, h.ge, h.nodup, fun i re' hi => by
    rcases Nat.lt_or_ge i Rs.length with hl | hl
    · rw [List.getElem?_append_left hl] at hi; exact h.rds i re' hi
    · rw [List.getElem?_append_right hl] at hi
      rcases Nat.eq_zero_or_pos (i - Rs.length) with h0 | h0
      · rw [h0] at hi; simp at hi; subst hi; exact hr
      · obtain ⟨m, hm⟩ : ∃ m, i - Rs.length = m + 1 := ⟨i - Rs.length - 1, by omega⟩
        rw [hm] at hi; simp at hi⟩
/-- Fewer things known of what may be read. -/
theorem Sep.less (h : Sep ok0 w0 w L Rs) (Rs' : List RE) (hr : ∀ (i : Nat) (re : RE), Rs'[i]? = some re → ∃ j : Nat, Rs[j]? = some re) : Sep ok0 w0 w L Rs' :=
  ⟨h.bas, h.ents, h.ge, h.nodup, fun i re hi => by obtain ⟨j, hj⟩ := hr i re hi; exact h.rds j re hj⟩
theorem blks_set {L : List Ent} {i : Nat} {e e' : Ent} (hi : L[i]? = some e) (he : e'.blks = e.blks) : blks (L.set i e') = blks L := by
  induction L generalizing i with
  | nil => simp at hi
  | cons x L ih =>
    cases i with
    | zero => simp at hi; subst hi; simp [blks, he]
    | succ i => simp [blks, ih (i := i) (by simpa using hi)]
theorem other_blk {L : List Ent} (hn : (blks L).Nodup) {i j : Nat} {e e' : Ent} (hi : L[i]? = some e) (hj : L[j]? = some e') (hne : i ≠ j) {b : Nat} (hb : b ∈ e.blks) : b ∉ e'.blks := by
  induction L generalizing i j with
  | nil => simp at hi
  | cons x L ih =>
    simp only [blks, List.nodup_append] at hn
    cases i with
    | zero =>
      simp at hi; subst hi
      cases j with
      | zero => exact absurd rfl hne
      | succ j => exact fun hb' => hn.2.2 b hb b (mem_blks (by simpa using hj) hb') rfl
    | succ i =>
      cases j with
      | zero =>
        simp at hj; subst hj
        exact fun hb' => hn.2.2 b hb' b (mem_blks (by simpa using hi) hb) rfl
      | succ j => exact ih hn.2.1 (by simpa using hi) (by simpa using hj) (by omega)
/-- One of the call's own things written anew, in its own memory. -/
theorem Sep.upd_ (h : Sep ok0 w0 w L Rs) {i : Nat} {e e' : Ent} (hi : L[i]? = some e) (he : e'.blks = e.blks) (hok : e'.ok w') (hsz : w'.heap.size = w.heap.size) (hos : w'.os = w.os) (htp : w'.tape = w.tape) (hout : w'.output = w.output)
    (hb : ∀ k, k ∉ e.blks → w'.heap[k]? = w.heap[k]?) : Sep ok0 w0 w' (L.set i e') Rs := by
  have hbl := blks_set hi he
  refine h.step ⟨hos.trans h.bas.os, htp.trans h.bas.tape, hout.trans h.bas.output, by have := h.bas.size; omega, fun k hk hx => (hb k fun hk' => by rcases (h.ge k (mem_blks hi hk')).1 with q | q; omega; exact hx q).trans (h.bas.block k hk hx)⟩ (by omega) ?_ (by rw [hbl, hsz]; exact h.ge) (by rw [hbl]; exact h.nodup) ?_
  · intro j e2 hj
    by_cases hij : i = j
    · subst hij
      have hlt : i < L.length := (List.getElem?_eq_some_iff.1 hi).1
      rw [List.getElem?_set_self hlt] at hj
      simp at hj; subst hj; exact hok
    · rw [List.getElem?_set_ne hij] at hj
      exact Ent.keep (h.ents j e2 hj) fun b hb' => hb b fun hb'' => other_blk h.nodup hi hj hij hb'' hb'
  · intro b hb' hl
    refine ⟨by rw [hbl]; exact hb', hb b fun hb'' => hb' (mem_blks hi hb'')⟩
/-- Nothing more is written here: the thing is no longer the call's own alone. -/
theorem blks_erase {L : List Ent} (i : Nat) : ∀ b, b ∈ blks (L.eraseIdx i) → b ∈ blks L := by
  induction L generalizing i with
  | nil => intro b h; simpa using h
  | cons x L ih =>
    cases i with
    | zero => intro b h; exact List.mem_append.2 (.inr (by simpa using h))
    | succ i =>
      intro b h
      rcases List.mem_append.1 (show b ∈ x.blks ++ blks (L.eraseIdx i) from h) with h | h
      · exact List.mem_append.2 (.inl h)
      · exact List.mem_append.2 (.inr (ih i b h))
theorem nodup_erase {L : List Ent} (i : Nat) (h : (blks L).Nodup) : (blks (L.eraseIdx i)).Nodup := by
  induction L generalizing i with
  | nil => simpa using h
  | cons x L ih =>
    simp only [blks, List.nodup_append] at h
    cases i with
    | zero => simpa using h.2.1
    | succ i =>
      show (x.blks ++ blks (L.eraseIdx i)).Nodup
      rw [List.nodup_append]
      exact ⟨h.1, ih i h.2.1, fun a ha b hb => h.2.2 a ha b (blks_erase i b hb)⟩
theorem Sep.forget (h : Sep ok0 w0 w L Rs) (i : Nat) : Sep ok0 w0 w (L.eraseIdx i) Rs := by
  refine h.step h.bas (Nat.le_refl _) ?_ (fun b hb => h.ge b (blks_erase i b hb)) (nodup_erase i h.nodup) fun b hb hl => ⟨fun hb' => hb (blks_erase i b hb'), rfl⟩
  intro j e hj
  rcases Nat.lt_or_ge j i with hl | hl
  · rw [List.getElem?_eraseIdx_of_lt hl] at hj; exact h.ents j e hj
  · rw [List.getElem?_eraseIdx_of_ge hl] at hj; exact h.ents (j + 1) e hj
theorem erase_not {L : List Ent} (hn : (blks L).Nodup) {i : Nat} {e : Ent} (hi : L[i]? = some e) {b : Nat} (hb : b ∈ e.blks) : b ∉ blks (L.eraseIdx i) := by
  intro hb'
  obtain ⟨j, e', hj, hbe⟩ := of_mem_blks hb'
  rcases Nat.lt_or_ge j i with hl | hl
  · rw [List.getElem?_eraseIdx_of_lt hl] at hj
    exact other_blk hn hi hj (by omega) hb hbe
  · rw [List.getElem?_eraseIdx_of_ge hl] at hj
    exact other_blk hn hi hj (by omega) hb hbe
/-- A slice comes in. -/
theorem Sep.arg (h : Sep ok0 w0 w L Rs) {re : RE} (hw : w = w0) (hL : L = []) (hr : re.rel w ok0) : Sep ok0 w0 w L (Rs ++ [re]) :=
  h.also (re.keep hr ⟨Nat.le_refl _, fun b ob ho hb => ⟨⟨by subst hL; simp [blks], .inl hb⟩, rfl⟩⟩)
/-- Some of what may be read. -/
theorem Sep.pick (h : Sep ok0 w0 w L Rs) (js : List Nat) : Sep ok0 w0 w L (js.filterMap (Rs[·]?)) :=
  h.less _ fun i re hi => by
    have hm := List.mem_of_getElem? hi
    obtain ⟨j, _, hj⟩ := List.mem_filterMap.1 hm
    exact ⟨j, hj⟩
/-- Behind a call: what the callee leaves is the caller's. -/
theorem Sep.call {L2 : List Ent} {Rs2 : List RE} (h : Sep ok0 w0 w L Rs) (h2 : Sep (okS ok0 w0 L) w w' L2 Rs2) : Sep ok0 w0 w' (L ++ L2) (Rs ++ Rs2) := by
  have hb2 := h2.base
  have h1 := h.below hb2
  have hle := h.bas.size
  have hge2 : ∀ b ∈ blks L2, w.heap.size ≤ b ∧ b < w'.heap.size := fun b hb => ⟨(h2.ge b hb).1.resolve_right id, (h2.ge b hb).2⟩
  refine ⟨h1.bas, fun i e hi => ?_, fun b hb => ?_, ?_, fun i re hi => ?_⟩
  · rcases Nat.lt_or_ge i L.length with hl | hl
    · rw [List.getElem?_append_left hl] at hi; exact h1.ents i e hi
    · rw [List.getElem?_append_right hl] at hi; exact h2.ents _ e hi
  · rw [blks_append, List.mem_append] at hb
    rcases hb with hb | hb
    · exact h1.ge b hb
    · have := hge2 b hb; exact ⟨.inl (by omega), this.2⟩
  · rw [blks_append]
    refine nodup_app h.nodup h2.nodup fun x hx hx' => ?_
    have := (hge2 x hx).1
    have := (h.ge x hx').2
    omega
  · rcases Nat.lt_or_ge i Rs.length with hl | hl
    · rw [List.getElem?_append_left hl] at hi
      refine re.keep (h.rds i re hi) ⟨hb2.size, fun b ob ho hb => ⟨⟨?_, hb.2⟩, hb2.block b (lt_of_heap ho)⟩⟩
      rw [blks_append, List.mem_append]
      rintro (hb' | hb')
      · exact hb.1 hb'
      · have := (hge2 b hb').1; have := lt_of_heap ho; omega
    · rw [List.getElem?_append_right hl] at hi
      refine re.keep (h2.rds _ re hi) ⟨Nat.le_refl _, fun b ob ho hb => ⟨⟨?_, ?_⟩, rfl⟩⟩
      · rw [blks_append, List.mem_append]
        rintro (hb' | hb')
        · rcases hb.2 with h3 | h3
          · exact h3.1 hb'
          · have := (h.ge b hb').2; omega
        · exact hb.1 hb'
      · rcases hb.2 with h3 | h3
        · exact h3.2
        · exact .inr ⟨by omega, h3.2⟩
theorem Sep.forgetAll (h : Sep ok0 w0 w L Rs) : Sep ok0 w0 w [] Rs := by
  refine h.step h.bas (Nat.le_refl _) (fun i e hi => by simp at hi) (fun b hb => by simp [blks] at hb) (by simp [blks]) fun b hb hl => ⟨by simp [blks], rfl⟩
/-- Nothing is handed on. -/
theorem Sep.none_ (h : Sep ok0 w0 w L Rs) : Sep ok0 w0 w [] [] := (h.forgetAll).less [] fun i re hi => by simp at hi
theorem Rd.any {α : Type} {K : Kd α} {w : World} {ok : Okp} {A : Option Addr} {c : Nat} {xs : List α} (h : Rd K w ok A c xs) : Rd K w okT A c xs := h.keep ⟨Nat.le_refl _, fun _ _ _ _ => ⟨trivial, rfl⟩⟩
/-- A nil row. -/
theorem Sep.nilRow (h : Sep ok0 w0 w L Rs) (t sz : Nat) : Sep ok0 w0 w (L ++ [.row (.slice none 0 0) t sz 0 []]) Rs :=
  h.push _ (Below.refl _ w) (World.ownsRow_nil w 0 t sz) (by simp [Ent.blks, Value.ownBlock]) (by simp [Ent.blks, Value.ownBlock])
theorem mem_blks_set' {L : List Ent} {i : Nat} {b : Nat} (h : b ∈ blks (L.set i .hole)) : b ∈ blks L := by
  induction L generalizing i with
  | nil => simpa using h
  | cons x L ih =>
    cases i with
    | zero => exact List.mem_append.2 (.inr (by simpa [blks, Ent.blks] using h))
    | succ i =>
      rcases List.mem_append.1 (show b ∈ x.blks ++ blks (L.set i .hole) from h) with h | h
      · exact List.mem_append.2 (.inl h)
      · exact List.mem_append.2 (.inr (ih h))
theorem nodup_hole {L : List Ent} (i : Nat) (h : (blks L).Nodup) : (blks (L.set i .hole)).Nodup := by
  induction L generalizing i with
  | nil => simpa using h
  | cons x L ih =>
    simp only [blks, List.nodup_append] at h
    cases i with
    | zero => simpa [blks, Ent.blks] using h.2.1
    | succ i =>
      show (x.blks ++ blks (L.set i .hole)).Nodup
      rw [List.nodup_append]
      exact ⟨h.1, ih i h.2.1, fun a ha b hb => h.2.2 a ha b (mem_blks_set' hb)⟩
/-- One of the things is not looked at. -/
theorem Sep.holeL (h : Sep ok0 w0 w L Rs) (i : Nat) : Sep ok0 w0 w (L.set i .hole) Rs := by
  refine h.step h.bas (Nat.le_refl _) ?_ (fun b hb => h.ge b (mem_blks_set' hb)) (nodup_hole i h.nodup) fun b hb hl => ⟨fun hb' => hb (mem_blks_set' hb'), rfl⟩
  intro j e hj
  by_cases hij : i = j
  · subst hij
    have hlt : i < L.length := by
      have := (List.getElem?_eq_some_iff.1 hj).1
      simpa using this
    rw [List.getElem?_set_self hlt] at hj
    simp at hj; subst hj; trivial
  · rw [List.getElem?_set_ne hij] at hj; exact h.ents j e hj
theorem Sep.setRe (h : Sep ok0 w0 w L Rs) (j : Nat) {re : RE} (hr : re.rel w (okS ok0 w0 L)) : Sep ok0 w0 w L (Rs.set j re) :=
  ⟨h.bas, h.ents, h.ge, h.nodup, fun i re' hi => by
    by_cases hij : j = i
    · subst hij
      have hlt : j < Rs.length := by
        have := (List.getElem?_eq_some_iff.1 hi).1
        simpa using this
      rw [List.getElem?_set_self hlt] at hi
      simp at hi; subst hi; exact hr
    · rw [List.getElem?_set_ne hij] at hi; exact h.rds i re' hi⟩
theorem Sep.holeR (h : Sep ok0 w0 w L Rs) (j : Nat) : Sep ok0 w0 w L (Rs.set j RE.hole) := h.setRe j trivial
theorem Sep.takeL (h : Sep ok0 w0 w L Rs) (m : Nat) : Sep ok0 w0 w (L.take m) Rs := by
  have hsub : ∀ b, b ∈ blks (L.take m) → b ∈ blks L := fun b hb => by
    have := blks_append (L.take m) (L.drop m)
    rw [List.take_append_drop] at this
    rw [this]; exact List.mem_append.2 (.inl hb)
  have hnd : (blks (L.take m)).Nodup := by
    have := blks_append (L.take m) (L.drop m)
    rw [List.take_append_drop] at this
    have h2 := h.nodup
    rw [this, List.nodup_append] at h2
    exact h2.1
  refine h.step h.bas (Nat.le_refl _) ?_ (fun b hb => h.ge b (hsub b hb)) hnd fun b hb hl => ⟨fun hb' => hb (hsub b hb'), rfl⟩
  intro j e hj
  rw [List.getElem?_take] at hj
  split at hj
  · exact h.ents j e hj
  · cases hj
theorem Sep.takeR (h : Sep ok0 w0 w L Rs) (m : Nat) : Sep ok0 w0 w L (Rs.take m) :=
  h.less _ fun i re hi => by
    rw [List.getElem?_take] at hi
    split at hi
    · exact ⟨i, hi⟩
    · cases hi
theorem hole_not {L : List Ent} (hn : (blks L).Nodup) {i : Nat} {e : Ent} (hi : L[i]? = some e) {b : Nat} (hb : b ∈ e.blks) : b ∉ blks (L.set i .hole) := by
  intro hb'
  obtain ⟨j, e', hj, hbe⟩ := of_mem_blks hb'
  by_cases hij : i = j
  · subst hij
    have hlt : i < L.length := by
      have := (List.getElem?_eq_some_iff.1 hj).1
      simpa using this
    rw [List.getElem?_set_self hlt] at hj
    simp at hj; subst hj; simp [Ent.blks] at hbe
  · rw [List.getElem?_set_ne hij] at hj
    exact other_blk hn hi hj hij hb hbe
/-- A row of the call's own becomes a slice that may be read. -/
theorem Sep.freeze {α : Type} (h : Sep ok0 w0 w L Rs) {i c t : Nat} {A : Option Addr} {cs : List Value} {K : Kd α} {xs : List α} (hi : L[i]? = some (.row (.slice A xs.length c) t K.sz xs.length cs))
    (hc : Chunks K w (okS ok0 w0 L) cs xs) : Rd K w (okS ok0 w0 (L.set i .hole)) A c xs := by
  have hrow := h.ents i _ hi
  have hm : Mov w w (okS ok0 w0 L) (okS ok0 w0 (L.set i .hole)) := ⟨Nat.le_refl _, fun b ob ho hb => ⟨⟨fun hb' => hb.1 (mem_blks_set' hb'), hb.2⟩, rfl⟩⟩
  rcases hrow.2 with ⟨hv, h0⟩ | ⟨g, cap, cur, hv, _, hh, hnc, hcm, hcs, htake⟩
  · simp only [Value.slice.injEq] at hv
    obtain ⟨rfl, h0, rfl⟩ := hv
    obtain rfl : xs = [] := List.eq_nil_of_length_eq_zero h0
    exact ⟨by simp, by simp, fun h => absurd rfl h⟩
  · simp only [Value.slice.injEq] at hv
    obtain ⟨rfl, _, rfl⟩ := hv
    refine ⟨by omega, by simp only [maxLen] at hcm; omega, fun _ => ⟨g, 0, rfl, ⟨_, hh, ?_⟩, fun j x hj => ⟨_, K.keep (hc.at_ j x hj) hm, ?_⟩⟩⟩
    · refine ⟨hole_not h.nodup hi (by simp [Ent.blks, Value.ownBlock]), ?_⟩
      rcases (h.ge g (mem_blks hi (by simp [Ent.blks, Value.ownBlock]))).1 with q | q
      · exact .inr ⟨q, rfl⟩
      · exact .inl (ok0.wrd g _ q rfl)
    · refine CellsAt.of_heap (cur := cur.toList) (t := t) (fr := (0, 0)) (by simpa using hh) fun k v hk => ?_
      rw [← htake, List.getElem?_take] at hk
      split at hk
      · rw [List.getElem?_drop, List.getElem?_take] at hk
        split at hk
        · rw [← hk]; congr 1; omega
        · cases hk
      · cases hk
/-- .. and is one of what may be read. -/
theorem Sep.frozen {α : Type} (h : Sep ok0 w0 w L Rs) {i j c t : Nat} {A : Option Addr} {cs : List Value} {K : Kd α} {xs : List α} (hi : L[i]? = some (.row (.slice A xs.length c) t K.sz xs.length cs)) (hj : Rs[j]? = some (RE.chunks K cs xs)) :
    Sep ok0 w0 w (L.set i .hole) (Rs.set j (RE.rd K A c xs)) :=
  (h.holeL i).setRe j (h.freeze hi (h.rds j _ hj))
theorem Sep.rd {α : Type} {K : Kd α} (h : Sep ok0 w0 w L Rs) {i c : Nat} {A : Option Addr} {xs : List α} (hi : Rs[i]? = some (RE.rd K A c xs)) : Rd K w (okS ok0 w0 L) A c xs := h.rds i _ hi
/-- A row of the call's own, read by a callee that hands on nothing. -/
theorem Sep.rowRd {α : Type} (h : Sep ok0 w0 w L Rs) {i j c t : Nat} {A : Option Addr} {cs : List Value} {K : Kd α} {xs : List α} (hi : L[i]? = some (.row (.slice A xs.length c) t K.sz xs.length cs)) (hj : Rs[j]? = some (RE.chunks K cs xs)) : Rd K w okT A c xs :=
  (h.freeze hi (h.rds j _ hj)).any
theorem Rd.nil {α : Type} {K : Kd α} {w : World} {ok : Okp} {A : Option Addr} {c : Nat} (hc : c ≤ 9223372036854775807) : Rd K w ok A c [] := ⟨Nat.zero_le _, hc, fun h => absurd rfl h⟩
end
end Go.Proofs.YtobkigllalbkiaaV

/- The operations' rules for the small logic. Nothing here names a program. -/
set_option linter.unusedVariables false
set_option linter.unusedSimpArgs false
namespace Go.Proofs.YtobkigllalbkiaaV
open Go.RowKit

def aggSz (P : Program) (t : TypeId) : Option Nat :=
  match P.underlying t with
  | some (.struct _) | some (.array _ _) => (P.info? t).map (·.size)
  | _ => none
def scal (P : Program) (t : TypeId) : Bool :=
  match P.underlying t with
  | some (.struct _) | some (.array _ _) | none => false
  | _ => true
def szOf (P : Program) (t : TypeId) : Option Nat := (P.info? t).map (·.size)
def bytesOf (P : Program) (t : TypeId) : Option Nat := (P.info? t).map (·.bytes)
def zeroOf (P : Program) (t : TypeId) : Option Value := (P.info? t).bind (·.zero)
def slElem (P : Program) (t : TypeId) : Option TypeId :=
  match P.underlying t with
  | some (.slice e) => some e
  | _ => none
theorem slElem_un {P : Program} {t e : TypeId} (h : slElem P t = some e) : P.underlying t = some (.slice e) := by
  unfold slElem at h
  split at h
  · rename_i e' he; simp at h; subst h; exact he
  · cases h

section
variable {P : Program} {r : Regs} {w : World} {dst : Option Tmp} {ty : TypeId} {pos : String} {af : Array Edge} {gd : Option (Nat × Bool)}

theorem x_move {x : Operand} {v : Value} (hx : ev r x = v) : (execOp (ev r) ⟨dst, .move x, ty, pos, af, gd⟩).run P w = .ok (.value v) w := by subst hx; rfl
theorem x_assign {x : Operand} {v : Value} (hx : ev r x = v) : (execOp (ev r) ⟨dst, .assign x, ty, pos, af, gd⟩).run P w = .ok (.value v) w := by subst hx; rfl
theorem x_pick {c x y : Operand} {b p q : Bool} (hc : ev r c = .bool b) (hx : ev r x = .bool p) (hy : ev r y = .bool q) : (execOp (ev r) ⟨dst, .pick c x y, ty, pos, af, gd⟩).run P w = .ok (.value (.bool (bif b then p else q))) w := by
  cases b <;> simp [execOp, asBool, hc, hx, hy]
theorem x_pick_t {c x y : Operand} {v : Value} (hc : ev r c = .bool true) (hx : ev r x = v) : (execOp (ev r) ⟨dst, .pick c x y, ty, pos, af, gd⟩).run P w = .ok (.value v) w := by
  simp [execOp, asBool, hc, hx]
theorem x_pick_f {c x y : Operand} {v : Value} (hc : ev r c = .bool false) (hy : ev r y = v) : (execOp (ev r) ⟨dst, .pick c x y, ty, pos, af, gd⟩).run P w = .ok (.value v) w := by
  simp [execOp, asBool, hc, hy]
section bin
variable {x y : Operand} {k : IntKind} {a b c : Int} {t t' : TypeId}
theorem x_add (hx : ev r x = .int k a) (hy : ev r y = .int k b) (hc : k.wrap (a + b) = c) : (execOp (ev r) ⟨dst, .binOp .add t x y t', ty, pos, af, gd⟩).run P w = .ok (.value (.int k c)) w := by
  subst hc; simp [execOp, hx, hy, eqGuard_at_int, binOp_add, Op.intArith]
theorem x_sub (hx : ev r x = .int k a) (hy : ev r y = .int k b) (hc : k.wrap (a - b) = c) : (execOp (ev r) ⟨dst, .binOp .sub t x y t', ty, pos, af, gd⟩).run P w = .ok (.value (.int k c)) w := by
  subst hc; simp [execOp, hx, hy, eqGuard_at_int, binOp_sub, Op.intArith]
theorem x_mul (hx : ev r x = .int k a) (hy : ev r y = .int k b) (hc : k.wrap (a * b) = c) : (execOp (ev r) ⟨dst, .binOp .mul t x y t', ty, pos, af, gd⟩).run P w = .ok (.value (.int k c)) w := by
  subst hc; simp [execOp, hx, hy, eqGuard_at_int, binOp_mul, Op.intArith]
theorem x_quo (hx : ev r x = .int k a) (hy : ev r y = .int k b) (hb : b ≠ 0) (hc : k.wrap (a.tdiv b) = c) : (execOp (ev r) ⟨dst, .binOp .quo t x y t', ty, pos, af, gd⟩).run P w = .ok (.value (.int k c)) w := by
  subst hc; simp [execOp, hx, hy, eqGuard_at_int, binOp_quo, Op.intDiv, hb]
theorem x_rem (hx : ev r x = .int k a) (hy : ev r y = .int k b) (hb : b ≠ 0) : (execOp (ev r) ⟨dst, .binOp .rem t x y t', ty, pos, af, gd⟩).run P w = .ok (.value (.int k (a.tmod b))) w := by
  simp [execOp, hx, hy, eqGuard_at_int, binOp_rem, Op.intDiv, hb]
theorem x_eql (hx : ev r x = .int k a) (hy : ev r y = .int k b) : (execOp (ev r) ⟨dst, .binOp .eql t x y t', ty, pos, af, gd⟩).run P w = .ok (.value (.bool (a == b))) w := by
  simp [execOp, hx, hy, eqGuard_at_int, binOp_eql]
theorem x_neq (hx : ev r x = .int k a) (hy : ev r y = .int k b) : (execOp (ev r) ⟨dst, .binOp .neq t x y t', ty, pos, af, gd⟩).run P w = .ok (.value (.bool (a != b))) w := by
  simp [execOp, hx, hy, eqGuard_at_int, binOp_neq]
theorem x_lss (hx : ev r x = .int k a) (hy : ev r y = .int k b) : (execOp (ev r) ⟨dst, .binOp .lss t x y t', ty, pos, af, gd⟩).run P w = .ok (.value (.bool (decide (a < b)))) w := by
  simp [execOp, hx, hy, eqGuard_at_int, binOp_lss]
theorem x_leq (hx : ev r x = .int k a) (hy : ev r y = .int k b) : (execOp (ev r) ⟨dst, .binOp .leq t x y t', ty, pos, af, gd⟩).run P w = .ok (.value (.bool (decide (a ≤ b)))) w := by
  simp [execOp, hx, hy, eqGuard_at_int, binOp_leq]
theorem x_gtr (hx : ev r x = .int k a) (hy : ev r y = .int k b) : (execOp (ev r) ⟨dst, .binOp .gtr t x y t', ty, pos, af, gd⟩).run P w = .ok (.value (.bool (decide (b < a)))) w := by
  simp [execOp, hx, hy, eqGuard_at_int, binOp_gtr]
theorem x_geq (hx : ev r x = .int k a) (hy : ev r y = .int k b) : (execOp (ev r) ⟨dst, .binOp .geq t x y t', ty, pos, af, gd⟩).run P w = .ok (.value (.bool (decide (b ≤ a)))) w := by
  simp [execOp, hx, hy, eqGuard_at_int, binOp_geq]
theorem x_eqlb {p q : Bool} (hu : P.underlying t = some .bool) (hx : ev r x = .bool p) (hy : ev r y = .bool q) : (execOp (ev r) ⟨dst, .binOp .eql t x y t', ty, pos, af, gd⟩).run P w = .ok (.value (.bool (p == q))) w := by
  simp [execOp, hx, hy, eqGuard_at_bool, binOp, Op.equal, Op.maxDepth, run_equalIn_bool' w 9999 t p q hu]
theorem x_neqb {p q : Bool} (hu : P.underlying t = some .bool) (hx : ev r x = .bool p) (hy : ev r y = .bool q) : (execOp (ev r) ⟨dst, .binOp .neq t x y t', ty, pos, af, gd⟩).run P w = .ok (.value (.bool (!(p == q)))) w := by
  simp [execOp, hx, hy, eqGuard_at_bool, binOp, Op.equal, Op.maxDepth, run_equalIn_bool' w 9999 t p q hu]
end bin
theorem x_not {x : Operand} {p : Bool} {t : TypeId} (hx : ev r x = .bool p) : (execOp (ev r) ⟨dst, .unOp .not t x, ty, pos, af, gd⟩).run P w = .ok (.value (.bool (!p))) w := by
  simp [execOp, hx, Op.unary]
theorem x_neg {x : Operand} {k : IntKind} {a c : Int} {t : TypeId} (hx : ev r x = .int k a) (hc : k.wrap (0 - a) = c) : (execOp (ev r) ⟨dst, .unOp .neg t x, ty, pos, af, gd⟩).run P w = .ok (.value (.int k c)) w := by
  subst hc; simp [execOp, hx, Op.unary, Op.intArith]
theorem x_conv {x : Operand} {k k' : IntKind} {a c : Int} {s d : TypeId} (hs : (P.underlying s).isSome = true) (hd : P.underlying d = some (.int k')) (hx : ev r x = .int k a) (hc : k'.wrap a = c) :
    (execOp (ev r) ⟨dst, .convert s d x, ty, pos, af, gd⟩).run P w = .ok (.value (.int k' c)) w := by
  subst hc
  obtain ⟨u, hu⟩ := Option.isSome_iff_exists.mp hs
  simp [execOp, hx, convert, run_underlying hu, run_underlying hd, Conv.intToInt]
theorem x_extract {x : Operand} {vs : Array Value} {i : Nat} {v : Value} (hx : ev r x = .tuple vs) (hv : vs[i]? = some v) : (execOp (ev r) ⟨dst, .extract x i, ty, pos, af, gd⟩).run P w = .ok (.value v) w := by
  simp [execOp, hx, Instr.extract, hv]
theorem x_len {x : Operand} {t e : TypeId} {A : Option Addr} {n c : Nat} (hu : slElem P t = some e) (hx : ev r x = .slice A n c) :
    (execOp (ev r) ⟨dst, .call { callee := .builtin .len, args := #[x], argTypes := #[t] }, ty, pos, af, gd⟩).run P w = .ok (.value (.int .i64 (n : Int))) w := by
  simp [execOp, resolve, invoke, builtin, hx, Builtin.len_, run_underlying (slElem_un hu), goInt]
def mn (a b : Int) : Int := if b < a then b else a
def mx (a b : Int) : Int := if b > a then b else a
section mm
variable {x y z u : Operand} {k : IntKind} {a b c d : Int} {ts : Array TypeId}
theorem x_min2 (hx : ev r x = .int k a) (hy : ev r y = .int k b) :
    (execOp (ev r) ⟨dst, .call { callee := .builtin .min, args := #[x, y], argTypes := ts }, ty, pos, af, gd⟩).run P w = .ok (.value (.int k (mn a b))) w := by
  simp [execOp, resolve, invoke, builtin, hx, hy, Builtin.min_, Builtin.min2, mn]
theorem x_min3 (hx : ev r x = .int k a) (hy : ev r y = .int k b) (hz : ev r z = .int k c) :
    (execOp (ev r) ⟨dst, .call { callee := .builtin .min, args := #[x, y, z], argTypes := ts }, ty, pos, af, gd⟩).run P w = .ok (.value (.int k (mn (mn a b) c))) w := by
  simp [execOp, resolve, invoke, builtin, hx, hy, hz, Builtin.min_, Builtin.min2, mn]
  try (congr)
theorem x_min4 (hx : ev r x = .int k a) (hy : ev r y = .int k b) (hz : ev r z = .int k c) (hu : ev r u = .int k d) :
    (execOp (ev r) ⟨dst, .call { callee := .builtin .min, args := #[x, y, z, u], argTypes := ts }, ty, pos, af, gd⟩).run P w = .ok (.value (.int k (mn (mn (mn a b) c) d))) w := by
  simp [execOp, resolve, invoke, builtin, hx, hy, hz, hu, Builtin.min_, Builtin.min2, mn]
  try (congr)
theorem x_max2 (hx : ev r x = .int k a) (hy : ev r y = .int k b) :
    (execOp (ev r) ⟨dst, .call { callee := .builtin .max, args := #[x, y], argTypes := ts }, ty, pos, af, gd⟩).run P w = .ok (.value (.int k (mx a b))) w := by
  simp [execOp, resolve, invoke, builtin, hx, hy, Builtin.max_, Builtin.max2, mx]
theorem x_max3 (hx : ev r x = .int k a) (hy : ev r y = .int k b) (hz : ev r z = .int k c) :
    (execOp (ev r) ⟨dst, .call { callee := .builtin .max, args := #[x, y, z], argTypes := ts }, ty, pos, af, gd⟩).run P w = .ok (.value (.int k (mx (mx a b) c))) w := by
  simp [execOp, resolve, invoke, builtin, hx, hy, hz, Builtin.max_, Builtin.max2, mx]
end mm
/-- A call of a function: what is asked of the program is one closed fact. -/
theorem x_call {f : Operand} {fid : FuncId} {first cap : Array Value} {xs : Array Operand} {ts : Array TypeId} {args : Array Value} (hf : ev r f = .func (.func fid) first cap) (ha : first ++ xs.map (ev r) ++ cap = args)
    (hc : (callFunc fid args).run P w = .ok (.enter fid args) w) :
    (execOp (ev r) ⟨dst, .call { callee := .value f, args := xs, argTypes := ts }, ty, pos, af, gd⟩).run P w = .ok (.enter fid args) w := by
  simp only [execOp, resolve, hf, Deferred.ofValue, Sem.run_bind, Sem.run_pure, Result.andThen_ok, invoke, ha, hc]

/-! ### addresses and loads -/
theorem add_plain (g o n : Nat) : (⟨g, o, none⟩ : Addr).add n = ⟨g, o + n, none⟩ := by unfold Addr.add; split <;> simp_all
theorem x_indexAddr {x i : Operand} {t e : TypeId} {k : IntKind} {j : Int} {A : Option Addr} {n c sz g o : Nat} (hu : slElem P t = some e) (hz : szOf P e = some sz) (hx : ev r x = .slice A n c) (hi : ev r i = .int k j)
    (hA : A = some ⟨g, o, none⟩) (h0 : 0 ≤ j) (h1 : j < n) : (execOp (ev r) ⟨dst, .indexAddr t x i, ty, pos, af, gd⟩).run P w = .ok (.value (.pointer (some ⟨g, o + j.toNat * sz, none⟩))) w := by
  subst hA
  unfold szOf at hz
  obtain ⟨inf, hq, hsz⟩ := Option.map_eq_some_iff.1 hz
  simp [execOp, hx, hi, Instr.indexAt, asIntOf, run_underlying (slElem_un hu), h0, h1, sizeOf, typeInfo, hq, hsz, add_plain]
theorem x_load {x : Operand} {t : TypeId} {g o j : Nat} {cs : List Value} {v : Value} (hs : scal P t = true) (hx : ev r x = .pointer (some ⟨g, o + j, none⟩)) (hc : CellsAt w g o cs) (hv : cs[j]? = some v) :
    (execOp (ev r) ⟨dst, .load t x, ty, pos, af, gd⟩).run P w = .ok (.value v) w := by
  have hcell := hc j v hv
  have hagg : (isAgg t).run P w = .ok false w := by
    unfold scal at hs
    cases hq : P.underlying t with
    | none => simp [hq] at hs
    | some d =>
      unfold isAgg
      rw [Sem.run_bind, run_underlying hq w]
      cases d <;> simp_all
  simp [execOp, hx, Instr.loadAt, Instr.sureAddr, loadVar, hagg, hcell]
theorem x_loadA {x : Operand} {t : TypeId} {g o j k : Nat} {cs vs : List Value} (hs : aggSz P t = some k) (hx : ev r x = .pointer (some ⟨g, o + j, none⟩)) (hc : CellsAt w g o cs) (hv : (cs.drop j).take k = vs) (hk : vs.length = k) :
    (execOp (ev r) ⟨dst, .load t x, ty, pos, af, gd⟩).run P w = .ok (.value (.agg vs.toArray)) w := by
  have hl : (loadCells ⟨g, o + j, none⟩ vs.length).run P w = .ok vs.toArray w := by
    refine run_loadCells_list (P := P) w _ vs fun i v hi => ?_
    rw [add_plain, Nat.add_assoc]
    refine hc (j + i) v ?_
    rw [← hv, List.getElem?_take] at hi
    split at hi
    · rwa [List.getElem?_drop] at hi
    · cases hi
  unfold aggSz at hs
  have hagg : (isAgg t).run P w = .ok true w ∧ szOf P t = some k := by
    cases hq : P.underlying t with
    | none => simp [hq] at hs
    | some d =>
      unfold isAgg
      rw [Sem.run_bind, run_underlying hq w]
      unfold szOf
      cases d <;> simp_all
  obtain ⟨hagg, hz⟩ := hagg
  unfold szOf at hz
  obtain ⟨inf, hq, hsz⟩ := Option.map_eq_some_iff.1 hz
  rw [hk] at hl
  simp [execOp, hx, Instr.loadAt, Instr.sureAddr, loadVar, hagg, sizeOf, typeInfo, hq, hsz, hl]
end

def fieldOff (P : Program) (s f : Nat) : Option Nat :=
  match P.underlying s with
  | some (.struct fs) => match fs[f]? with
    | some fl => match szOf P fl.type with
      | some (n + 1) => some fl.offset
      | _ => none
    | none => none
  | _ => none
theorem x_fieldAddr {P : Program} {r : Regs} {w : World} {dst : Option Tmp} {ty : TypeId} {pos : String} {af : Array Edge} {gd : Option (Nat × Bool)} {x : Operand} {s f off g o : Nat} (hf : fieldOff P s f = some off) (hx : ev r x = .pointer (some ⟨g, o, none⟩)) :
    (execOp (ev r) ⟨dst, .fieldAddr s x f, ty, pos, af, gd⟩).run P w = .ok (.value (.pointer (some ⟨g, o + off, none⟩))) w := by
  unfold fieldOff at hf
  split at hf
  · rename_i fs hs
    split at hf
    · rename_i fl hfl
      split at hf
      · rename_i m hm
        simp at hf
        subst hf
        unfold szOf at hm
        obtain ⟨inf, hq, hsz⟩ := Option.map_eq_some_iff.1 hm
        simp [execOp, hx, Instr.fieldAt, Instr.sureAddr, run_underlying hs, hfl, fieldPlace, sizeOf, typeInfo, hq, hsz, add_plain]
      · cases hf
    · cases hf
  · cases hf

/-! ### what changes memory -/
section
variable {P : Program} {ops : Array Oper} {n : Nat} {r : Regs} {ok0 : Okp} {w0 w : World} {K : Regs → World → Prop} {L : List Ent} {Rs : List RE} {d : Nat} {ty : TypeId} {pos : String} {af : Array Edge} {gd : Option (Nat × Bool)}
theorem Sep.cells {i : Nat} {b t : Nat} {cs : List Value} (H : Sep ok0 w0 w L Rs) (hi : L[i]? = some (.blk b t cs)) : CellsAt w b 0 cs :=
  CellsAt.of_heap (t := t) (fr := (0, 0)) (H.ents i _ hi) fun j v h => by simpa using h
theorem O_box {t : TypeId} {x : Operand} {v : Value} {cs : List Value} (hw : wantedR ops r ⟨some d, .box t x, ty, pos, af, gd⟩ = true) (hn : Nat.blt d n = true) (hx : ev r x = v) (hc : v.cells.toList = cs) (H : Sep ok0 w0 w L Rs)
    (h : ∀ w' b, Sep ok0 w0 w' (L ++ [.blk b t cs]) Rs → K (upd r d (.pointer (some ⟨b, 0, none⟩))) w') : OpR P ops n ⟨some d, .box t x, ty, pos, af, gd⟩ r w K := by
  subst hc
  refine OpR_val hw rfl hn (v := .pointer (some ⟨w.heap.size, 0, none⟩)) (w' := w.alloc (.cells v.cells t)) ?_ (h _ _ ?_)
  · simp [execOp, hx, Instr.box, newVar, newRow]
  · have := H.alloc t v.cells.toList
    simpa using this
theorem O_alloc {t : TypeId} {z : Value} {cs : List Value} (hw : wantedR ops r ⟨some d, .alloc t, ty, pos, af, gd⟩ = true) (hn : Nat.blt d n = true) (hz : zeroOf P t = some z) (hc : z.cells.toList = cs) (H : Sep ok0 w0 w L Rs)
    (h : ∀ w' b, Sep ok0 w0 w' (L ++ [.blk b t cs]) Rs → K (upd r d (.pointer (some ⟨b, 0, none⟩))) w') : OpR P ops n ⟨some d, .alloc t, ty, pos, af, gd⟩ r w K := by
  subst hc
  unfold zeroOf at hz
  obtain ⟨inf, hq, hz'⟩ := Option.bind_eq_some_iff.1 hz
  refine OpR_val hw rfl hn (v := .pointer (some ⟨w.heap.size, 0, none⟩)) (w' := w.alloc (.cells z.cells t)) ?_ (h _ _ ?_)
  · simp [execOp, Instr.alloc, zeroValue, typeInfo, hq, hz', newVar, newRow]
  · have := H.alloc t z.cells.toList
    simpa using this
theorem Sep.setBlk {i : Nat} {b t : Nat} {cs cs' : List Value} (H : Sep ok0 w0 w L Rs) (hi : L[i]? = some (.blk b t cs)) : Sep ok0 w0 (w.setRow b cs'.toArray) (L.set i (.blk b t cs')) Rs := by
  have hh := H.ents i _ hi
  refine H.upd_ (e := .blk b t cs) hi rfl (setRow_heap w b cs.toArray cs'.toArray t (0, 0) hh) (by simp [World.setRow]) rfl rfl rfl fun k hk => ?_
  exact setRow_other w b k cs'.toArray (by simpa [Ent.blks] using hk)
theorem run_storeVar_at {w : World} {b t ty off : Nat} {cs vs : List Value} {v : Value} (hh : w.heap[b]? = some (.cells cs.toArray t (0, 0))) (hv : v.cells.toList = vs) (hz : szOf P ty = some vs.length) (hl : off + vs.length ≤ cs.length) (h1 : ∀ u ∈ vs, u.oneCell' = true) :
    (storeVar ty ⟨b, off, none⟩ v).run P w = .ok () (w.setRow b (cs.take off ++ vs ++ cs.drop (off + vs.length)).toArray) := by
  have hst := run_storeCells_at P b off t vs 0 cs.toArray w hh (by simpa using hl) h1
  unfold szOf at hz
  obtain ⟨inf, hq, hsz⟩ := Option.map_eq_some_iff.1 hz
  have hsz' : v.cells.size = inf.size := by rw [hsz, ← hv]; simp
  simp only [Nat.add_zero] at hst
  simp [storeVar, sizeOf, typeInfo, hq, hsz', hv, hst]
theorem O_store {i : Nat} {b off t t' : Nat} {x y : Operand} {cs vs cs' : List Value} {v : Value} (hw : wantedR ops r ⟨none, .store t x y, ty, pos, af, gd⟩ = true) (hx : ev r x = .pointer (some ⟨b, off, none⟩)) (hy : ev r y = v) (H : Sep ok0 w0 w L Rs)
    (hi : L[i]? = some (.blk b t' cs)) (hv : v.cells.toList = vs) (hz : szOf P t = some vs.length) (hl : Nat.ble (off + vs.length) cs.length = true) (h1 : vs.all Value.oneCell' = true)
    (hc : cs.take off ++ vs ++ cs.drop (off + vs.length) = cs') (h : ∀ w', Sep ok0 w0 w' (L.set i (.blk b t' cs')) Rs → K r w') : OpR P ops n ⟨none, .store t x y, ty, pos, af, gd⟩ r w K := by
  subst hc
  have hrun := run_storeVar_at (P := P) (ty := t) (off := off) (H.ents i _ hi) hv hz (Nat.le_of_ble_eq_true hl) (List.all_eq_true.1 h1)
  refine OpR_unit hw rfl (w' := w.setRow b (cs.take off ++ vs ++ cs.drop (off + vs.length)).toArray) ?_ (h _ (H.setBlk hi))
  simp [execOp, hx, hy, Instr.storeAt, Instr.sureAddr, hrun]
end

/-! ### rows of the call's own -/
section
variable {ok0 : Okp} {w0 w w' : World} {L : List Ent} {Rs : List RE}
theorem mem_blks_set {L : List Ent} {i : Nat} {e' : Ent} {b : Nat} (h : b ∈ blks (L.set i e')) : (b ∈ e'.blks ∧ i < L.length) ∨ ∃ (j : Nat) (e2 : Ent), j ≠ i ∧ L[j]? = some e2 ∧ b ∈ e2.blks := by
  obtain ⟨j, e2, hj, hb⟩ := of_mem_blks h
  by_cases hij : i = j
  · subst hij
    have hlt : i < L.length := by
      have := (List.getElem?_eq_some_iff.1 hj).1
      simpa using this
    rw [List.getElem?_set_self hlt] at hj
    simp at hj; subst hj
    exact .inl ⟨hb, hlt⟩
  · rw [List.getElem?_set_ne hij] at hj
    exact .inr ⟨j, e2, fun h => hij h.symm, hj, hb⟩
theorem nodup_set {L : List Ent} {i : Nat} {e e' : Ent} (hn : (blks L).Nodup) (hi : L[i]? = some e) (hnd : e'.blks.Nodup) (hnew : ∀ b ∈ e'.blks, b ∈ e.blks ∨ b ∉ blks L) : (blks (L.set i e')).Nodup := by
  induction L generalizing i with
  | nil => simp at hi
  | cons x L ih =>
    simp only [blks, List.nodup_append] at hn
    cases i with
    | zero =>
      simp at hi; subst hi
      show (e'.blks ++ blks L).Nodup
      refine nodup_app hnd hn.2.1 fun b hb hb' => ?_
      rcases hnew b hb' with h | h
      · exact hn.2.2 b h b hb rfl
      · exact h (List.mem_append.2 (.inr hb))
    | succ i =>
      have hi' : L[i]? = some e := by simpa using hi
      show (x.blks ++ blks (L.set i e')).Nodup
      refine nodup_app hn.1 (ih hn.2.1 hi' fun b hb => ?_) fun b hb hb' => ?_
      · rcases hnew b hb with h | h
        · exact .inl h
        · exact .inr fun h' => h (List.mem_append.2 (.inr h'))
      · rcases mem_blks_set hb with ⟨h, _⟩ | ⟨j, e2, hj, he2, h⟩
        · rcases hnew b h with h2 | h2
          · exact hn.2.2 b hb' b (mem_blks hi' h2) rfl
          · exact h2 (List.mem_append.2 (.inl hb'))
        · exact hn.2.2 b hb' b (mem_blks he2 h) rfl
/-- One of the call's own things written anew, in its own memory or in new memory. -/
theorem Sep.grow (h : Sep ok0 w0 w L Rs) {i : Nat} {e e' : Ent} (hi : L[i]? = some e) (hok : e'.ok w') (hsz : w.heap.size ≤ w'.heap.size) (hos : w'.os = w.os) (htp : w'.tape = w.tape) (hout : w'.output = w.output)
    (hb : ∀ k, k < w.heap.size → k ∉ e.blks → w'.heap[k]? = w.heap[k]?) (hnd : e'.blks.Nodup) (hnew : ∀ b ∈ e'.blks, (b ∈ e.blks ∨ w.heap.size ≤ b) ∧ b < w'.heap.size) : Sep ok0 w0 w' (L.set i e') Rs := by
  have hle := h.bas.size
  have hnew' : ∀ b ∈ e'.blks, b ∈ e.blks ∨ b ∉ blks L := fun b hb => by
    rcases (hnew b hb).1 with h1 | h1
    · exact .inl h1
    · exact .inr fun h2 => by have := (h.ge b h2).2; omega
  refine h.step ⟨hos.trans h.bas.os, htp.trans h.bas.tape, hout.trans h.bas.output, by omega, fun k hk hx => (hb k (by omega) fun hk' => by rcases (h.ge k (mem_blks hi hk')).1 with q | q; omega; exact hx q).trans (h.bas.block k hk hx)⟩ hsz ?_ ?_ (nodup_set h.nodup hi hnd hnew') ?_
  · intro j e2 hj
    by_cases hij : i = j
    · subst hij
      have hlt : i < L.length := (List.getElem?_eq_some_iff.1 hi).1
      rw [List.getElem?_set_self hlt] at hj
      simp at hj; subst hj; exact hok
    · rw [List.getElem?_set_ne hij] at hj
      exact Ent.keep (h.ents j e2 hj) fun b hb' => hb b (h.ge b (mem_blks hj hb')).2 fun hb'' => other_blk h.nodup hi hj hij hb'' hb'
  · intro b hb'
    rcases mem_blks_set hb' with ⟨h1, _⟩ | ⟨j, e2, hj, he2, h1⟩
    · have h2 := hnew b h1
      refine ⟨?_, h2.2⟩
      rcases h2.1 with h3 | h3
      · exact (h.ge b (mem_blks hi h3)).1
      · exact .inl (by omega)
    · have := h.ge b (mem_blks he2 h1); exact ⟨this.1, by omega⟩
  · intro b hb' hl
    refine ⟨fun hb'' => ?_, hb b hl fun hb'' => hb' (mem_blks hi hb'')⟩
    rcases mem_blks_set hb'' with ⟨h1, _⟩ | ⟨j, e2, hj, he2, h1⟩
    · rcases (hnew b h1).1 with h2 | h2
      · exact hb' (mem_blks hi h2)
      · omega
    · exact hb' (mem_blks he2 h1)
theorem Sep.setR (h : Sep ok0 w0 w L Rs) (j : Nat) {re : RE} (hr : re.rel w (okS ok0 w0 L)) : Sep ok0 w0 w L (Rs.set j re) :=
  ⟨h.bas, h.ents, h.ge, h.nodup, fun i re' hi => by
    by_cases hij : j = i
    · subst hij
      have hlt : j < Rs.length := by
        have := (List.getElem?_eq_some_iff.1 hi).1
        simpa using this
      rw [List.getElem?_set_self hlt] at hi
      simp at hi; subst hi; exact hr
    · rw [List.getElem?_set_ne hij] at hi; exact h.rds i re' hi⟩
theorem okS_of_eq {L' : List Ent} (h : ∀ b, b ∈ blks L' → b ∈ blks L ∨ w.heap.size ≤ b) {b : Nat} {ob : Obj} (hl : b < w.heap.size) (hb : (okS ok0 w0 L).rd b ob) : (okS ok0 w0 L').rd b ob := by
  refine ⟨fun hb' => ?_, hb.2⟩
  rcases h b hb' with h1 | h1
  · exact hb.1 h1
  · omega
theorem own_form {w : World} {base : Nat} {e : TypeId} {size n : Nat} {v : Value} {xs : List Value} (h : w.ownsRow base e size v n xs) : ∃ A c, v = .slice A n c ∧ (v = .slice none 0 0 ∨ ∃ g, A = some ⟨g, 0, none⟩) := by
  rcases h.2 with ⟨rfl, rfl⟩ | ⟨g, cap, cur, rfl, _⟩
  · exact ⟨none, 0, rfl, .inl rfl⟩
  · exact ⟨_, cap, rfl, .inr ⟨g, rfl⟩⟩
end
section
variable {P : Program} {ops : Array Oper} {n : Nat} {r : Regs} {ok0 : Okp} {w0 w : World} {K : Regs → World → Prop} {L : List Ent} {Rs : List RE} {d : Nat} {ty : TypeId} {pos : String} {af : Array Edge} {gd : Option (Nat × Bool)}
/-- append(v, x): x lies there, cell by cell. -/
theorem O_append {α : Type} {D : Kd α} {s x : Operand} {t e i j g o c2 c bytes : Nat} {A : Option Addr} {cs news : List Value} {xs ys : List α} {y : α} {z : Value}
    (hw : wantedR ops r ⟨some d, .call { callee := .builtin .append, args := #[s, x], argTypes := #[t, t] }, ty, pos, af, gd⟩ = true) (hn : Nat.blt d n = true)
    (hs : ev r s = .slice A xs.length c) (hx : ev r x = .slice (some ⟨g, o, none⟩) 1 c2) (H : Sep ok0 w0 w L Rs) (hi : L[i]? = some (.row (.slice A xs.length c) e D.sz xs.length cs)) (hj : Rs[j]? = some (RE.chunks D cs xs))
    (hc : CellsAt w g o news) (hr : D.rel w (okS ok0 w0 L) news y) (hys : xs ++ [y] = ys)
    (hu : slElem P t = some e) (hz : szOf P e = some D.sz) (hby : bytesOf P e = some bytes) (hz0 : zeroOf P e = some z) (hzs : z.cells.size = D.sz) (hpos : Nat.blt 0 D.sz = true) (hb : (xs.length + 1) * bytes ≤ 140737488355328) (hb0 : Nat.blt 0 bytes = true)
    (h : ∀ w' A' c' cs', Sep ok0 w0 w' (L.set i (.row (.slice A' ys.length c') e D.sz ys.length cs')) (Rs.set j (RE.chunks D cs' ys)) → K (upd r d (.slice A' ys.length c')) w') :
    OpR P ops n ⟨some d, .call { callee := .builtin .append, args := #[s, x], argTypes := #[t, t] }, ty, pos, af, gd⟩ r w K := by
  unfold szOf at hz; unfold bytesOf at hby; unfold zeroOf at hz0
  obtain ⟨inf, hq, hsz⟩ := Option.map_eq_some_iff.1 hz
  simp only [hq, Option.map_some, Option.some.injEq, Option.bind_some] at hby hz0
  have hrow := H.ents i _ hi
  have hch : Chunks D w (okS ok0 w0 L) cs xs := H.rds j _ hj
  have hlen : xs.length + 1 ≤ 140737488355328 := Nat.le_trans (Nat.le_mul_of_pos_right _ (lt_of_blt hb0)) hb
  obtain ⟨v', w', hrun, hown, hg, _, hat⟩ := run_append_own_at (P := P) w 0 t ty e inf z D.sz bytes (slElem_un hu) hq hz0 hsz hby hzs (lt_of_blt hpos) _ xs.length cs hrow ⟨g, o, none⟩ 1 c2 news (by rw [D.len hr]; omega)
    (fun k u hk => by rw [add_plain]; exact hc k u hk) (D.one hr) (by simp only [maxLen]; omega) hb (Nat.zero_le _)
  obtain ⟨A', c', rfl, hform⟩ := own_form hown
  have hl : xs.length + 1 = ys.length := by subst hys; simp
  rw [hl] at hown hrun
  refine OpR_val hw rfl hn (v := .slice A' ys.length c') (w' := w') ?_ (h w' A' c' (cs ++ news) ?_)
  · simp [execOp, resolve, invoke, builtin, hs, hx, hrun]
  · have hlt : ∀ b, (Value.slice A' ys.length c').ownBlock = some b → b < w'.heap.size := fun b hb => (hown.lt b hb).2
    have hS := H.grow (w' := w') (e' := .row (.slice A' ys.length c') e D.sz ys.length (cs ++ news)) hi hown hg.size hg.os hg.tape hg.output (fun k hk hk' => hg.block k hk (fun he => hk' (by simp [Ent.blks, ← he])))
      (by simp only [Ent.blks]; cases (Value.slice A' ys.length c').ownBlock <;> simp) (fun b hb => by
        simp only [Ent.blks, Option.mem_toList] at hb
        have hb' : (Value.slice A' ys.length c').ownBlock = some b := hb
        refine ⟨?_, hlt b hb'⟩
        rw [← hl] at hb'
        rcases hat with h1 | h1
        · rw [h1] at hb'
          exact .inl (by simp [Ent.blks, hb'])
        · rw [h1] at hb'
          exact .inr (by simp at hb'; omega))
    refine hS.setR j ?_
    have hm : Mov w w' (okS ok0 w0 L) (okS ok0 w0 (L.set i (.row (.slice A' ys.length c') e D.sz ys.length (cs ++ news)))) := ⟨hg.size, fun b ob ho hb => ?_⟩
    · subst hys
      exact (hch.keep hm).snoc (D.keep hr hm)
    · have hlt' := lt_of_heap ho
      have hnb : b ∉ (Ent.row (.slice A xs.length c) e D.sz xs.length cs).blks := fun hb' => hb.1 (mem_blks hi hb')
      refine ⟨⟨fun hb' => ?_, hb.2⟩, hg.block b hlt' (fun he => hnb (by simp [Ent.blks, ← he]))⟩
      rcases mem_blks_set hb' with ⟨h1, _⟩ | ⟨k, e2, hk, he2, h1⟩
      · simp only [Ent.blks, Option.mem_toList] at h1
        have h1' : (Value.slice A' ys.length c').ownBlock = some b := h1
        rw [← hl] at h1'
        rcases hat with h2 | h2
        · rw [h2] at h1'; exact hnb (by simp [Ent.blks, h1'])
        · rw [h2] at h1'; simp at h1'; omega
      · exact hb.1 (mem_blks he2 h1)
/-- A row of the call's own, read at a place. -/
theorem Sep.rowIdx {α : Type} {D : Kd α} {i j e c : Nat} {A : Option Addr} {cs : List Value} {xs : List α} (H : Sep ok0 w0 w L Rs) (hi : L[i]? = some (.row (.slice A xs.length c) e D.sz xs.length cs)) (hj : Rs[j]? = some (RE.chunks D cs xs)) {m : Int} {x : α} (hx : xs[m.toNat]? = some x) :
    ∃ g ce, A = some ⟨g, 0, none⟩ ∧ D.rel w (okS ok0 w0 L) ce x ∧ CellsAt w g (0 + m.toNat * D.sz) ce := by
  have hrow := H.ents i _ hi
  have hch : Chunks D w (okS ok0 w0 L) cs xs := H.rds j _ hj
  have hlt : m.toNat < xs.length := (List.getElem?_eq_some_iff.1 hx).1
  rcases hrow.2 with ⟨hv, h0⟩ | ⟨g, cap, cur, hv, _, hh, hnc, hcm, hcs, htake⟩
  · omega
  · simp only [Value.slice.injEq] at hv
    obtain ⟨rfl, _, rfl⟩ := hv
    refine ⟨g, _, rfl, hch.at_ _ x hx, ?_⟩
    refine CellsAt.of_heap (cur := cur.toList) (t := e) (fr := (0, 0)) (by simpa using hh) fun k v hk => ?_
    rw [← htake, List.getElem?_take] at hk
    split at hk
    · rw [List.getElem?_drop, List.getElem?_take] at hk
      split at hk
      · rw [← hk]; congr 1; omega
      · cases hk
    · cases hk
theorem Chunks.split {α : Type} {D : Kd α} {w : World} {ok : Okp} {cs : List Value} {x : α} {xs : List α} (h : Chunks D w ok cs (x :: xs)) : ∃ ce rest, cs = ce ++ rest ∧ ce.length = D.sz ∧ D.rel w ok ce x ∧ Chunks D w ok rest xs :=
  ⟨cs.take D.sz, cs.drop D.sz, (List.take_append_drop _ _).symm, D.len h.1, h.1, h.2⟩
theorem Chunks.join {α : Type} {D : Kd α} {w : World} {ok : Okp} {ce rest : List Value} {x : α} {xs : List α} (hx : D.rel w ok ce x) (h : Chunks D w ok rest xs) : Chunks D w ok (ce ++ rest) (x :: xs) := by
  have hl := D.len hx
  exact ⟨by rw [List.take_append_of_le_length (by omega), List.take_of_length_le (by omega)]; exact hx, by rw [List.drop_append_of_le_length (by omega), List.drop_eq_nil_of_le (by omega)]; exact h⟩
theorem Chunks.put {α : Type} {D : Kd α} {w : World} {ok : Okp} {off : Nat} {vs : List Value} {a b : α} (hle : off + vs.length ≤ D.sz) (hrel : ∀ ce, D.rel w ok ce a → D.rel w ok (ce.take off ++ vs ++ ce.drop (off + vs.length)) b) :
    ∀ (m : Nat) (cs : List Value) (xs : List α), Chunks D w ok cs xs → xs[m]? = some a → Chunks D w ok (cs.take (m * D.sz + off) ++ vs ++ cs.drop (m * D.sz + off + vs.length)) (xs.set m b)
  | m, cs, [], _, hm => by simp at hm
  | 0, cs, x :: xs, h, hm => by
    obtain ⟨ce, rest, rfl, hl, hx, h2⟩ := h.split
    simp at hm; subst hm
    have := Chunks.join (hrel ce hx) h2
    rw [List.set_cons_zero, Nat.zero_mul, Nat.zero_add, List.take_append_of_le_length (by omega), List.drop_append_of_le_length (by omega)]
    simpa [List.append_assoc] using this
  | m + 1, cs, x :: xs, h, hm => by
    obtain ⟨ce, rest, rfl, hl, hx, h2⟩ := h.split
    have ih := Chunks.put hle hrel m rest xs h2 (by simpa using hm)
    have := Chunks.join hx ih
    have e1 : (m + 1) * D.sz + off = ce.length + (m * D.sz + off) := by rw [hl, Nat.add_mul]; omega
    have e2 : (m + 1) * D.sz + off + vs.length = ce.length + (m * D.sz + off + vs.length) := by rw [hl, Nat.add_mul]; omega
    rw [List.set_cons_succ, e2, e1, List.take_length_add_append, List.drop_length_add_append]
    simpa [List.append_assoc] using this
/-- One element of a row of the call's own written, or a part of it. -/
theorem O_storeRow {α : Type} {D : Kd α} {i j e c t off : Nat} {x y : Operand} {A : Option Addr} {cs vs : List Value} {xs ys : List α} {m : Int} {g : Nat} {a b : α} {v : Value}
    (hw : wantedR ops r ⟨none, .store t x y, ty, pos, af, gd⟩ = true) (H : Sep ok0 w0 w L Rs) (hi : L[i]? = some (.row (.slice A xs.length c) e D.sz xs.length cs)) (hj : Rs[j]? = some (RE.chunks D cs xs))
    (hA : A = some ⟨g, 0, none⟩) (hx : ev r x = .pointer (some ⟨g, 0 + m.toNat * D.sz + off, none⟩)) (hy : ev r y = v) (hm : xs[m.toNat]? = some a) (hv : v.cells.toList = vs) (hz : szOf P t = some vs.length)
    (hl : Nat.ble (off + vs.length) D.sz = true) (h1 : vs.all Value.oneCell' = true) (hrel : ∀ ce, D.rel w (okS ok0 w0 L) ce a → D.rel w (okS ok0 w0 L) (ce.take off ++ vs ++ ce.drop (off + vs.length)) b) (hys : xs.set m.toNat b = ys)
    (h : ∀ w' cs', Sep ok0 w0 w' (L.set i (.row (.slice A ys.length c) e D.sz ys.length cs')) (Rs.set j (RE.chunks D cs' ys)) → K r w') : OpR P ops n ⟨none, .store t x y, ty, pos, af, gd⟩ r w K := by
  have hrow := H.ents i _ hi
  have hch : Chunks D w (okS ok0 w0 L) cs xs := H.rds j _ hj
  have hlt : m.toNat < xs.length := (List.getElem?_eq_some_iff.1 hm).1
  have hle := Nat.le_of_ble_eq_true hl
  have hmul : m.toNat * D.sz + D.sz ≤ xs.length * D.sz := by
    have := Nat.mul_le_mul_right D.sz (show m.toNat + 1 ≤ xs.length by omega)
    rwa [Nat.add_mul, Nat.one_mul] at this
  rcases hrow.2 with ⟨hv0, h0⟩ | ⟨g', cap, cur, hv0, hge, hh, hnc, hcm, hcs, htake⟩
  · omega
  · simp only [Value.slice.injEq] at hv0
    obtain ⟨rfl, _, rfl⟩ := hv0
    simp only [Option.some.injEq, Addr.mk.injEq, and_true] at hA
    subst hA
    have hcap : xs.length * D.sz ≤ c * D.sz := Nat.mul_le_mul_right _ hnc
    have hcl : cs.length = xs.length * D.sz := hrow.1
    rw [Nat.zero_add] at hx
    have hrun := run_storeVar_at (P := P) (w := w) (b := g') (t := e) (ty := t) (off := m.toNat * D.sz + off) (cs := cur.toList) (by simpa using hh) hv hz (by simp; omega) (List.all_eq_true.1 h1)
    have hyl : ys.length = xs.length := by subst hys; simp
    have hput := Chunks.put hle hrel m.toNat cs xs hch hm
    rw [hys] at hput
    have hcs2 : cur.toList.take (m.toNat * D.sz + off) ++ vs ++ cur.toList.drop (m.toNat * D.sz + off + vs.length) = (cur.toList.take (m.toNat * D.sz + off) ++ vs ++ cur.toList.drop (m.toNat * D.sz + off + vs.length)) := rfl
    refine OpR_unit hw rfl (w' := w.setRow g' (cur.toList.take (m.toNat * D.sz + off) ++ vs ++ cur.toList.drop (m.toNat * D.sz + off + vs.length)).toArray) ?_ (h _ (cs.take (m.toNat * D.sz + off) ++ vs ++ cs.drop (m.toNat * D.sz + off + vs.length)) ?_)
    · simp [execOp, hx, hy, Instr.storeAt, Instr.sureAddr, hrun]
    · have hS := H.upd_ (w' := w.setRow g' (cur.toList.take (m.toNat * D.sz + off) ++ vs ++ cur.toList.drop (m.toNat * D.sz + off + vs.length)).toArray) (e' := .row (.slice (some ⟨g', 0, none⟩) ys.length c) e D.sz ys.length (cs.take (m.toNat * D.sz + off) ++ vs ++ cs.drop (m.toNat * D.sz + off + vs.length))) hi rfl
        ⟨by rw [hput.len], .inr ⟨g', c, _, rfl, hge, setRow_heap w g' cur _ e (0, 0) hh, by omega, hcm, by simp; omega, ?_⟩⟩ (by simp [World.setRow]) rfl rfl rfl fun k hk => setRow_other w g' k _ (by simpa [Ent.blks, Value.ownBlock] using hk)
      · refine hS.setR j ?_
        refine (RE.chunks D _ _).keep (w := w) (ok := okS ok0 w0 L) hput ⟨by simp [World.setRow], fun b ob ho hb => ⟨⟨?_, hb.2⟩, setRow_other w g' b _ fun he => hb.1 (mem_blks hi (by simp [Ent.blks, Value.ownBlock, he]))⟩⟩
        rw [blks_set (e := .row (.slice (some ⟨g', 0, none⟩) xs.length c) e D.sz xs.length cs) hi (by rfl)]; exact hb.1
      · rw [hyl, ← htake]
        have hcur : (cur.toList.take (xs.length * D.sz)).length = xs.length * D.sz := by simp; omega
        simp only [List.toList_toArray] at *
        rw [List.take_append, List.take_append, List.take_take, List.take_take, List.drop_take]
        simp only [List.length_append, List.length_take, Array.length_toList]
        rw [show min (xs.length * D.sz) (m.toNat * D.sz + off) = m.toNat * D.sz + off by omega, show min (m.toNat * D.sz + off) (xs.length * D.sz) = m.toNat * D.sz + off by omega,
          show min (m.toNat * D.sz + off) cur.size = m.toNat * D.sz + off by omega, List.take_of_length_le (l := vs) (by omega),
          show xs.length * D.sz - (m.toNat * D.sz + off + vs.length) = xs.length * D.sz - (m.toNat * D.sz + off + vs.length) from rfl]
end
end Go.Proofs.YtobkigllalbkiaaV

/- A function's body, entered and left; models' words. Nothing here names a program. -/
set_option linter.unusedVariables false
set_option linter.unusedSimpArgs false
namespace Go.Proofs.YtobkigllalbkiaaV
open Go.RowKit

def tup : List Value → Value
  | [v] => v
  | vs => .tuple vs.toArray
def ResV (P : Program) (r : Regs) (w : World) : List ResultVar → List Value → Prop
  | [], vs => vs = []
  | .tmp t :: rs, vs => ∃ v vs', vs = v :: vs' ∧ r t = v ∧ ResV P r w rs vs'
  | .cell a t :: rs, vs => ∃ v vs' ad, vs = v :: vs' ∧ r a = .pointer (some ad) ∧ (loadVar t ad).run P w = .ok v w ∧ ResV P r w rs vs'
theorem ResV.tmp {P : Program} {r : Regs} {w : World} {t : Tmp} {rs : List ResultVar} {v : Value} {vs : List Value} (h : r t = v) (hr : ResV P r w rs vs) : ResV P r w (.tmp t :: rs) (v :: vs) := ⟨v, vs, rfl, h, hr⟩
theorem loadVar_scal {P : Program} {w : World} {t : TypeId} {g o j : Nat} {cs : List Value} {v : Value} (hs : scal P t = true) (hc : CellsAt w g o cs) (hv : cs[j]? = some v) : (loadVar t ⟨g, o + j, none⟩).run P w = .ok v w := by
  have := x_load (P := P) (r := fun _ => .pointer (some ⟨g, o + j, none⟩)) (w := w) (dst := none) (ty := 0) (pos := "") (af := #[]) (gd := none) (x := .tmp 0) hs rfl hc hv
  simp only [execOp, ev, Instr.loadAt, Instr.sureAddr, Sem.run_bind, Sem.run_pure, Result.andThen_ok] at this
  cases hq : (loadVar t ⟨g, o + j, none⟩).run P w with
  | ok u w' => rw [hq] at this; simp at this; obtain ⟨rfl, rfl⟩ := this; rfl
  | halt h w' => rw [hq] at this; simp at this
theorem loadVar_agg {P : Program} {w : World} {t : TypeId} {g o j k : Nat} {cs vs : List Value} (hs : aggSz P t = some k) (hc : CellsAt w g o cs) (hv : (cs.drop j).take k = vs) (hk : vs.length = k) : (loadVar t ⟨g, o + j, none⟩).run P w = .ok (.agg vs.toArray) w := by
  have := x_loadA (P := P) (r := fun _ => .pointer (some ⟨g, o + j, none⟩)) (w := w) (dst := none) (ty := 0) (pos := "") (af := #[]) (gd := none) (x := .tmp 0) hs rfl hc hv hk
  simp only [execOp, ev, Instr.loadAt, Instr.sureAddr, Sem.run_bind, Sem.run_pure, Result.andThen_ok] at this
  cases hq : (loadVar t ⟨g, o + j, none⟩).run P w with
  | ok u w' => rw [hq] at this; simp at this; obtain ⟨rfl, rfl⟩ := this; rfl
  | halt h w' => rw [hq] at this; simp at this
theorem ResV.cellA {P : Program} {r : Regs} {w : World} {a : Tmp} {t : TypeId} {b k : Nat} {cs : List Value} {rs : List ResultVar} {vs : List Value} (hr : r a = .pointer (some ⟨b, 0, none⟩)) (hs : aggSz P t = some k) (hc : CellsAt w b 0 cs) (hk : cs.length = k)
    (h : ResV P r w rs vs) : ResV P r w (.cell a t :: rs) (.agg cs.toArray :: vs) :=
  ⟨_, vs, _, rfl, hr, loadVar_agg (j := 0) hs hc (by rw [List.drop_zero, ← hk, List.take_length]) hk, h⟩
theorem ResV.cellS {P : Program} {r : Regs} {w : World} {a : Tmp} {t : TypeId} {b : Nat} {v : Value} {rs : List ResultVar} {vs : List Value} (hr : r a = .pointer (some ⟨b, 0, none⟩)) (hs : scal P t = true) (hc : CellsAt w b 0 [v])
    (h : ResV P r w rs vs) : ResV P r w (.cell a t :: rs) (v :: vs) :=
  ⟨_, vs, _, rfl, hr, loadVar_scal (j := 0) hs hc rfl, h⟩
def resAt (r : Regs) (v : ResultVar) : Sem Value :=
  match v with
  | .tmp t => pure (r t)
  | .cell a t => do loadVar t (← asAddr (r a))
theorem run_resAt {P : Program} {r : Regs} {w : World} : ∀ {rs : List ResultVar} {vs : List Value}, ResV P r w rs vs → (rs.mapM (resAt r)).run P w = .ok vs w
  | [], vs, h => by have : vs = [] := h; subst this; rfl
  | .tmp t :: rs, vs, h => by
    obtain ⟨v, vs', rfl, rfl, h'⟩ := h
    rw [List.mapM_cons]
    simp [resAt, run_resAt h']
  | .cell a t :: rs, vs, h => by
    obtain ⟨v, vs', ad, rfl, hr, hl, h'⟩ := h
    rw [List.mapM_cons]
    simp [resAt, hr, asAddr, hl, run_resAt h']
theorem run_results {P : Program} {n : Nat} {r : Regs} {a : Act} {w : World} {fn : Func} {vs : List Value} (ha : Fr n r a) (h : ResV P r w fn.results.toList vs) : (results fn a.tmps).run P w = .ok (tup vs) w := by
  have h1 : (fn.results.mapM (resAt r)).run P w = .ok vs.toArray w := by
    have hm : fn.results.mapM (resAt r) = List.toArray <$> fn.results.toList.mapM (resAt r) := by
      rw [Array.mapM_eq_mapM_toList]
    rw [hm, Sem.run_map, run_resAt h]
    rfl
  have key : ∀ F : ResultVar → Sem Value, (∀ x, F x = resAt r x) → (fn.results.mapM F).run P w = .ok vs.toArray w := fun F hF => by rw [funext hF]; exact h1
  unfold results
  rw [Sem.run_bind, key _ (fun x => by cases x <;> simp only [resAt, ha.get])]
  simp only [Result.andThen_ok]
  match vs with
  | [] => rfl
  | [v] => rfl
  | v :: u :: l => rfl
def retP (P : Program) (rs : Array ResultVar) (R : Ending → World → Prop) : Post
  | .normal, r, w => ∃ vs, ResV P r w rs.toList vs ∧ R (.returned (tup vs)) w
  | .ret, r, w => ∃ vs, ResV P r w rs.toList vs ∧ R (.returned (tup vs)) w
  | _, _, _ => False
theorem calls_W {P : Program} {f n : Nat} {fn : Func} {c : Code} {args : List Value} {w : World} {R : Ending → World → Prop} (hf : P.funcs[f]? = some fn) (hb : fn.body = some c) (hn : fn.ntmps = n) {rs : Array ResultVar} (hres : fn.results = rs) (hsz : Nat.ble args.length n = true)
    (h : ∀ r, (∀ (i : Nat) (v : Value), args[i]? = some v → r i = v) → W P n c (retP P rs R) r w) : Calls P f args.toArray w R := by
  subst hres
  refine calls_of_wp hf hb ?_
  have hle := Nat.le_of_ble_eq_true hsz
  have hfr : Fr n (fun i => (args.toArray ++ Array.replicate (fn.ntmps - args.toArray.size) undef).getD i undef) { tmps := args.toArray ++ Array.replicate (fn.ntmps - args.toArray.size) undef, defers := [] } :=
    ⟨by simp [hn]; omega, rfl, fun _ => rfl⟩
  refine wp_mono (h _ (fun i v hv => ?_) _ hfr) fun e a w q => ?_
  · have hlt : i < args.length := (List.getElem?_eq_some_iff.1 hv).1
    have : (args.toArray ++ Array.replicate (fn.ntmps - args.toArray.size) undef)[i]? = some v := by
      rw [Array.getElem?_append_left (by simpa using hlt)]
      simpa using hv
    rw [Array.getD_eq_getD_getElem?, this]
    rfl
  · cases e with
    | panic c => exact q.elim
    | outgrown => exact q.elim
    | normal => obtain ⟨r, hr, vs, hv, hR⟩ := q; exact ⟨hr.defers, _, run_results hr hv, hR⟩
    | ret => obtain ⟨r, hr, vs, hv, hR⟩ := q; exact ⟨hr.defers, _, run_results hr hv, hR⟩
    | exit id => obtain ⟨r, hr, hq⟩ := q; exact hq.elim
    | goto l => obtain ⟨r, hr, hq⟩ := q; exact hq.elim

/-! ### models -/
def ck {α : Type} (x : Int) (k : Int → Option α) : Option α := if -9223372036854775808 ≤ x ∧ x ≤ 9223372036854775807 then k x else none
theorem wrap_i64_in {x : Int} (h : -9223372036854775808 ≤ x ∧ x ≤ 9223372036854775807) : IntKind.i64.wrap x = x := IntWalk.i64_in x h
theorem ck_some {α : Type} {x : Int} {k : Int → Option α} {res : α} (h : ck x k = some res) : ∃ c, c = x ∧ (-9223372036854775808 ≤ c ∧ c ≤ 9223372036854775807) ∧ IntKind.i64.wrap x = c ∧ k c = some res := by
  unfold ck at h
  split at h
  · rename_i hx; exact ⟨x, rfl, hx, wrap_i64_in hx, h⟩
  · cases h
def idx {α β : Type} (l : List α) (i : Int) (k : α → Option β) : Option β := if 0 ≤ i then (l[i.toNat]?).bind k else none
theorem idx_some {α β : Type} {l : List α} {i : Int} {k : α → Option β} {res : β} (h : idx l i k = some res) : ∃ x, 0 ≤ i ∧ i < (l.length : Int) ∧ l[i.toNat]? = some x ∧ k x = some res := by
  unfold idx at h
  split at h
  · rename_i h0
    obtain ⟨x, hx, hk⟩ := Option.bind_eq_some_iff.1 h
    have := (List.getElem?_eq_some_iff.1 hx).1
    exact ⟨x, h0, by omega, hx, hk⟩
  · cases h
def nz {α : Type} (b : Int) (k : Option α) : Option α := if b ≠ 0 then k else none
theorem nz_some {α : Type} {b : Int} {k : Option α} {res : α} (h : nz b k = some res) : b ≠ 0 ∧ k = some res := by
  unfold nz at h
  split at h
  · rename_i hb; exact ⟨hb, h⟩
  · cases h
theorem cond_t {α : Type} {b : Bool} {x y : Option α} {res : α} (hb : b = true) (h : (bif b then x else y) = some res) : x = some res := by subst hb; exact h
theorem cond_f {α : Type} {b : Bool} {x y : Option α} {res : α} (hb : b = false) (h : (bif b then x else y) = some res) : y = some res := by subst hb; exact h
theorem bind_some {α β : Type} {x : Option α} {k : α → Option β} {res : β} (h : x.bind k = some res) : ∃ y, x = some y ∧ k y = some res := Option.bind_eq_some_iff.1 h

theorem none_some {α : Type} {res : α} (h : (none : Option α) = some res) : False := by cases h
def apd {α β : Type} (bytes : Nat) (l : List α) (x : α) (k : List α → Option β) : Option β := if (l.length + 1) * bytes ≤ 140737488355328 then k (l ++ [x]) else none
theorem apd_some {α β : Type} {bytes : Nat} {l : List α} {x : α} {k : List α → Option β} {res : β} (h : apd bytes l x k = some res) : ∃ ys, l ++ [x] = ys ∧ (l.length + 1) * bytes ≤ 140737488355328 ∧ k ys = some res := by
  unfold apd at h
  split at h
  · rename_i hb; exact ⟨_, rfl, hb, h⟩
  · cases h

def apds {α β : Type} (bytes : Nat) (l m : List α) (k : List α → Option β) : Option β := if (l.length + m.length) * bytes ≤ 140737488355328 then k (l ++ m) else none
theorem apds_some {α β : Type} {bytes : Nat} {l m : List α} {k : List α → Option β} {res : β} (h : apds bytes l m k = some res) : ∃ ys, l ++ m = ys ∧ (l.length + m.length) * bytes ≤ 140737488355328 ∧ k ys = some res := by
  unfold apds at h
  split at h
  · rename_i hb; exact ⟨_, rfl, hb, h⟩
  · cases h

def ge0 {α : Type} (b : Int) (k : Option α) : Option α := if 0 ≤ b then k else none
theorem ge0_some {α : Type} {b : Int} {k : Option α} {res : α} (h : ge0 b k = some res) : 0 ≤ b ∧ k = some res := by
  unfold ge0 at h
  split at h
  · rename_i hb; exact ⟨hb, h⟩
  · cases h
def shlV (k : IntKind) (a b : Int) : Int := k.wrap (a * 2 ^ min b.toNat k.bits)
theorem x_shl {P : Program} {r : Regs} {w : World} {dst : Option Tmp} {ty : TypeId} {pos : String} {af : Array Edge} {gd : Option (Nat × Bool)} {x y : Operand} {k k' : IntKind} {a b : Int} {t : TypeId} {t' : TypeId} (hx : ev r x = .int k a) (hy : ev r y = .int k' b) (hb : 0 ≤ b) :
    (execOp (ev r) ⟨dst, .binOp .shl t x y t', ty, pos, af, gd⟩).run P w = .ok (.value (.int k (shlV k a b))) w := by
  simp [execOp, hx, hy, eqGuard, binOp, Op.shift, shlV, Int.not_lt.2 hb]

def lete {α β : Type} (x : α) (k : α → Option β) : Option β := k x
theorem lete_some {α β : Type} {x : α} {k : α → Option β} {res : β} (h : lete x k = some res) : ∃ y, x = y ∧ k y = some res := ⟨x, rfl, h⟩
theorem W_regen {P : Program} {n : Nat} {Q : Post} {r : Regs} {w : World} {c : Code} {l : List (Nat × Value)} (h : Agr l r) (k : ∀ r1, W P n c Q (updL l r1) w) : W P n c Q r w := by
  obtain ⟨r1, rfl⟩ := regen l h
  exact k r1

def andV (k : IntKind) (a b : Int) : Int := k.wrap (BitVec.ofInt k.bits a &&& BitVec.ofInt k.bits b).toNat
theorem x_and {P : Program} {r : Regs} {w : World} {dst : Option Tmp} {ty : TypeId} {pos : String} {af : Array Edge} {gd : Option (Nat × Bool)} {x y : Operand} {k : IntKind} {a b c : Int} {t : TypeId} {t' : TypeId} (hx : ev r x = .int k a) (hy : ev r y = .int k b) (hc : andV k a b = c) :
    (execOp (ev r) ⟨dst, .binOp .and t x y t', ty, pos, af, gd⟩).run P w = .ok (.value (.int k c)) w := by
  subst hc
  simp [execOp, hx, hy, eqGuard, binOp, Op.intBits, andV]
def shrV (_k : IntKind) (a b : Int) : Int := a.fdiv (2 ^ min b.toNat _k.bits)
theorem x_shr {P : Program} {r : Regs} {w : World} {dst : Option Tmp} {ty : TypeId} {pos : String} {af : Array Edge} {gd : Option (Nat × Bool)} {x y : Operand} {k k' : IntKind} {a b c : Int} {t : TypeId} {t' : TypeId} (hx : ev r x = .int k a) (hy : ev r y = .int k' b) (hb : 0 ≤ b) (hc : shrV k a b = c) :
    (execOp (ev r) ⟨dst, .binOp .shr t x y t', ty, pos, af, gd⟩).run P w = .ok (.value (.int k c)) w := by
  subst hc
  simp [execOp, hx, hy, eqGuard, binOp, Op.shift, shrV, Int.not_lt.2 hb]
def mks {α β : Type} (bytes : Nat) (n : Int) (z : α) (k : List α → Option β) : Option β := if 0 ≤ n ∧ n * bytes ≤ 140737488355328 then k (List.replicate n.toNat z) else none
theorem mks_some {α β : Type} {bytes : Nat} {n : Int} {z : α} {k : List α → Option β} {res : β} (h : mks bytes n z k = some res) : ∃ ys, 0 ≤ n ∧ List.replicate n.toNat z = ys ∧ n * bytes ≤ 140737488355328 ∧ k ys = some res := by
  unfold mks at h
  split at h
  · rename_i hb; exact ⟨_, hb.1, rfl, hb.2, h⟩
  · cases h

def slg {α : Type} (a b : Int) (k : Option α) : Option α := if 0 ≤ a ∧ a ≤ b then k else none
theorem slg_some {α : Type} {a b : Int} {k : Option α} {res : α} (h : slg a b k = some res) : 0 ≤ a ∧ a ≤ b ∧ k = some res := by
  unfold slg at h
  split at h
  · rename_i hb; exact ⟨hb.1, hb.2, h⟩
  · cases h

/-! ### kinds -/
def Kd.flat {α : Type} (n : Nat) (enc : α → List Value) (hl : ∀ x, (enc x).length = n) (h1 : ∀ x, ∀ v ∈ enc x, v.oneCell' = true) : Kd α where
  sz := n
  rel := fun _ _ cs x => cs = enc x
  len := fun h => by rw [h]; exact hl _
  one := fun h => by rw [h]; exact h1 _
  keep := fun h _ => h
def kInt : Kd Int := Kd.flat 1 (fun x => [.int .i64 x]) (fun _ => rfl) (fun x v hv => by simp at hv; subst hv; rfl)
def kBool : Kd Bool := Kd.flat 1 (fun x => [.bool x]) (fun _ => rfl) (fun x v hv => by simp at hv; subst hv; rfl)
theorem Rd.idx {α : Type} {K : Kd α} {w : World} {ok : Okp} {A : Option Addr} {c : Nat} {xs : List α} (h : Rd K w ok A c xs) {i : Int} {x : α} (hx : xs[i.toNat]? = some x) :
    ∃ g o cs, A = some ⟨g, o, none⟩ ∧ K.rel w ok cs x ∧ At w ok g ∧ CellsAt w g (o + i.toNat * K.sz) cs := by
  have hne : xs ≠ [] := by rintro rfl; simp at hx
  obtain ⟨g, o, hA, hg, hc⟩ := h.2.2 hne
  obtain ⟨cs, hk, hat⟩ := hc _ x hx
  exact ⟨g, o, cs, hA, hk, hg, hat⟩
theorem Rd.flatAt {α : Type} {n : Nat} {enc : α → List Value} {hl : ∀ x, (enc x).length = n} {h1 : ∀ x, ∀ v ∈ enc x, v.oneCell' = true} {w : World} {ok : Okp} {A : Option Addr} {c : Nat} {xs : List α} (h : Rd (Kd.flat n enc hl h1) w ok A c xs)
    {g o : Nat} (hA : A = some ⟨g, o, none⟩) {j : Nat} {x : α} (hx : xs[j]? = some x) : CellsAt w g (o + j * n) (enc x) := by
  have hne : xs ≠ [] := by rintro rfl; simp at hx
  obtain ⟨g', o', hA', hg, hc⟩ := h.2.2 hne
  rw [hA] at hA'
  simp only [Option.some.injEq, Addr.mk.injEq, and_true] at hA'
  obtain ⟨rfl, rfl⟩ := hA'
  obtain ⟨cs, hk, hat⟩ := hc _ x hx
  have : cs = enc x := hk
  subst this
  exact hat
/-- Where a slice that may be read, and is not empty, begins. -/
theorem Rd.addr {α : Type} {K : Kd α} {w : World} {ok : Okp} {A : Option Addr} {c : Nat} {xs : List α} (h : Rd K w ok A c xs) {j : Nat} {x : α} (hx : xs[j]? = some x) : ∃ g o, A = some ⟨g, o, none⟩ := by
  have hne : xs ≠ [] := by rintro rfl; simp at hx
  obtain ⟨g, o, hA, _⟩ := h.2.2 hne
  exact ⟨g, o, hA⟩
/-- Elements that are slices. -/
def Kd.slice {α : Type} (K : Kd α) : Kd (List α) where
  sz := 1
  rel := fun w ok cs x => ∃ A c, cs = [.slice A x.length c] ∧ Rd K w ok A c x
  len := by rintro w ok cs x ⟨A, c, rfl, _⟩; rfl
  one := by
    rintro w ok cs x ⟨A, c, rfl, _⟩ v hv
    simp at hv; subst hv; rfl
  keep := by rintro w w' ok ok' cs x ⟨A, c, rfl, h⟩ hm; exact ⟨A, c, rfl, h.keep hm⟩
section
variable {P : Program} {ops : Array Oper} {n : Nat} {r : Regs} {w : World} {M : Regs → World → Prop}
/-- A call: the contract, then what follows. -/
theorem O_call {K : Regs → World → Prop} {o : Oper} {d : Nat} {f : FuncId} {args : Array Value} {R : Ending → World → Prop} (hw : wantedR ops r o = true) (hd : o.dst = some d) (hn : Nat.blt d n = true)
    (hrun : (execOp (ev r) o).run P w = .ok (.enter f args) w) (hc : Calls P f args w R) (h : ∀ e w', R e w' → ∃ v, e = .returned v ∧ K (upd r d v) w') : OpR P ops n o r w K := OpR_call hw hd hn hrun hc h
section plans
variable {S : World → Prop} {p : List Mv}
theorem PR_nil (h : M r w) : PR P ops n S [] M r w := h
theorem PR_take {i d : Nat} {o : Oper} {v : Value} (ho : ops[i]? = some o) (hd : o.dst = some d) (hn : Nat.blt d n = true) (hw : wantedR ops r o = true) (hrun : ∀ w', S w' → (execOp (ev r) o).run P w' = .ok (.value v) w')
    (h : PR P ops n S p M (upd r d v) w) : PR P ops n S (.take i :: p) M r w := ⟨o, d, v, ho, hd, hn, .inl ⟨hw, hrun⟩, h⟩
theorem PR_off {i d : Nat} {o : Oper} (ho : ops[i]? = some o) (hd : o.dst = some d) (hn : Nat.blt d n = true) (hw : wantedR ops r o = false)
    (h : PR P ops n S p M (upd r d undef) w) : PR P ops n S (.take i :: p) M r w := ⟨o, d, undef, ho, hd, hn, .inr ⟨hw, rfl⟩, h⟩
theorem PR_free {i d : Nat} {o : Oper} {v : Value} (ho : ops[i]? = some o) (hd : o.dst = some d) (hn : Nat.blt d n = true) (hw : wantedR ops r o = true) (hrun : ∀ w', (execOp (ev r) o).run P w' = .ok (.value v) w')
    (h : PR P ops n S p M (upd r d v) w) : PR P ops n S (.free i :: p) M r w := ⟨o, d, v, ho, hd, hn, .inl ⟨hw, fun w' _ => hrun w'⟩, h⟩
theorem PR_offF {i d : Nat} {o : Oper} (ho : ops[i]? = some o) (hd : o.dst = some d) (hn : Nat.blt d n = true) (hw : wantedR ops r o = false)
    (h : PR P ops n S p M (upd r d undef) w) : PR P ops n S (.free i :: p) M r w := ⟨o, d, undef, ho, hd, hn, .inr ⟨hw, rfl⟩, h⟩
theorem PR_run {i : Nat} {o : Oper} (ho : ops[i]? = some o) (h : OpR P ops n o r w fun r' w' => S w' ∧ PR P ops n S p M r' w') : PR P ops n S (.run i :: p) M r w := ⟨o, ho, h⟩
theorem PR_tail {i : Nat} {o : Oper} (ho : ops[i]? = some o) (h : OpR P ops n o r w fun r' w' => PR P ops n S p M r' w') : PR P ops n S (.tail i :: p) M r w := ⟨o, ho, h⟩
theorem PR_mono {M' : Regs → World → Prop} (hm : ∀ r w, M r w → M' r w) : ∀ (p : List Mv) (r : Regs) (w : World), PR P ops n S p M r w → PR P ops n S p M' r w
  | [], _, _, h => hm _ _ h
  | .take _ :: p, _, _, ⟨o, d, v, h1, h2, h3, h4, h5⟩ => ⟨o, d, v, h1, h2, h3, h4, PR_mono hm p _ _ h5⟩
  | .free _ :: p, _, _, ⟨o, d, v, h1, h2, h3, h4, h5⟩ => ⟨o, d, v, h1, h2, h3, h4, PR_mono hm p _ _ h5⟩
  | .run _ :: p, _, _, ⟨o, h1, h2⟩ => ⟨o, h1, OpR_mono h2 fun r w h => ⟨h.1, PR_mono hm p _ _ h.2⟩⟩
  | .tail _ :: p, _, _, ⟨o, h1, h2⟩ => ⟨o, h1, OpR_mono h2 fun r w h => PR_mono hm p _ _ h⟩
theorem PR_app {q : List Mv} : ∀ (p : List Mv) (r : Regs) (w : World), PR P ops n S p (PR P ops n S q M) r w → PR P ops n S (p ++ q) M r w
  | [], _, _, h => h
  | .take _ :: p, _, _, ⟨o, d, v, h1, h2, h3, h4, h5⟩ => ⟨o, d, v, h1, h2, h3, h4, PR_app p _ _ h5⟩
  | .free _ :: p, _, _, ⟨o, d, v, h1, h2, h3, h4, h5⟩ => ⟨o, d, v, h1, h2, h3, h4, PR_app p _ _ h5⟩
  | .run _ :: p, _, _, ⟨o, h1, h2⟩ => ⟨o, h1, OpR_mono h2 fun r w h => ⟨h.1, PR_app p _ _ h.2⟩⟩
  | .tail _ :: p, _, _, ⟨o, h1, h2⟩ => ⟨o, h1, OpR_mono h2 fun r w h => PR_app p _ _ h⟩
theorem PR_cut (k : Nat) (M1 : Regs → World → Prop) (h : PR P ops n S (p.take k) M1 r w) (h2 : ∀ r w, M1 r w → PR P ops n S (p.drop k) M r w) : PR P ops n S p M r w := by
  have := PR_app (M := M) (q := p.drop k) (p.take k) r w (PR_mono h2 _ _ _ h)
  rwa [List.take_append_drop] at this
end plans
theorem RL_val {o : Oper} {rest : List Oper} {d : Nat} {v : Value} {w' : World} (hw : wantedR ops r o = true) (hd : o.dst = some d) (hn : Nat.blt d n = true)
    (hrun : (execOp (ev r) o).run P w = .ok (.value v) w') (h : RL P ops n rest M (upd r d v) w') : RL P ops n (o :: rest) M r w := OpR_val hw hd hn hrun h
theorem RL_pure {o : Oper} {rest : List Oper} {d : Nat} {v : Value} (hw : wantedR ops r o = true) (hd : o.dst = some d) (hn : Nat.blt d n = true)
    (hrun : (execOp (ev r) o).run P w = .ok (.value v) w) (h : RL P ops n rest M (upd r d v) w) : RL P ops n (o :: rest) M r w := OpR_val hw hd hn hrun h
end
/-- A call of a function with a body comes in. -/
theorem run_enter {P : Program} {f : FuncId} {fn : Func} {c : Code} (hf : P.funcs[f]? = some fn) (hb : fn.body = some c) (hname : (fn.name == "runtime.NumGoroutine") = false) (args : Array Value) (w : World) :
    (callFunc f args).run P w = .ok (.enter f args) w := by
  have h1 : ¬ fn.name = "runtime.NumGoroutine" := by simpa using hname
  simp [callFunc, hf, h1, hb]
end Go.Proofs.YtobkigllalbkiaaV

/- More rules of operations: structs, arrays, slices made and cut, comparisons of structs. Nothing here names a program. -/
set_option linter.unusedVariables false
set_option linter.unusedSimpArgs false
namespace Go.Proofs.YtobkigllalbkiaaV
open Go.RowKit

section
variable {P : Program} {r : Regs} {w : World} {dst : Option Tmp} {ty : TypeId} {pos : String} {af : Array Edge} {gd : Option (Nat × Bool)}
/-- A call of a function, its arguments a list. -/
theorem x_callL {f : Operand} {fid : FuncId} {first cap : Array Value} {xs : List Operand} {ts : Array TypeId} {args : List Value} (hf : ev r f = .func (.func fid) first cap) (ha : first.toList ++ xs.map (ev r) ++ cap.toList = args)
    (hc : (callFunc fid args.toArray).run P w = .ok (.enter fid args.toArray) w) :
    (execOp (ev r) ⟨dst, .call { callee := .value f, args := xs.toArray, argTypes := ts }, ty, pos, af, gd⟩).run P w = .ok (.enter fid args.toArray) w :=
  x_call hf (by subst ha; simp) hc
theorem x_makeFunc {f : Fn} {xs : List Operand} {vs : List Value} (hv : xs.map (ev r) = vs) :
    (execOp (ev r) ⟨dst, .makeFunc f #[] xs.toArray, ty, pos, af, gd⟩).run P w = .ok (.value (.func f #[] vs.toArray)) w := by
  subst hv
  simp [execOp, Instr.makeFunc]
theorem x_build {t : TypeId} {ps : List (Nat × Operand)} {vs : List (Nat × Value)} {cs : List Value} (hv : ps.map (fun p => (p.1, ev r p.2)) = vs) (hb : P.built t vs = some cs.toArray) :
    (execOp (ev r) ⟨dst, .build t ps.toArray, ty, pos, af, gd⟩).run P w = .ok (.value (.agg cs.toArray)) w := by
  subst hv
  have := run_build w t ((ps.map fun p => (p.1, ev r p.2)).toArray) cs.toArray hb
  simp only [execOp, Sem.run_bind]
  rw [show (ps.toArray.map fun (x : Nat × Operand) => match x with | (i, x) => (i, ev r x)) = (ps.map fun p => (p.1, ev r p.2)).toArray by simp, this]
  rfl
/-- An array's length and what it is of. -/
def arrOf (P : Program) (t : TypeId) : Option (Nat × TypeId) :=
  match P.underlying t with
  | some (.array n e) => some (n, e)
  | _ => none
theorem arrOf_un {t e : TypeId} {n : Nat} (h : arrOf P t = some (n, e)) : P.underlying t = some (.array n e) := by
  unfold arrOf at h
  split at h
  · rename_i n' e' he; simp at h; obtain ⟨rfl, rfl⟩ := h; exact he
  · cases h
theorem x_indexArr {x i : Operand} {t e : TypeId} {k : IntKind} {j : Int} {len sz g o : Nat} (hu : arrOf P t = some (len, e)) (hz : szOf P e = some sz) (hx : ev r x = .pointer (some ⟨g, o, none⟩)) (hi : ev r i = .int k j)
    (h0 : 0 ≤ j) (h1 : j < (len : Int)) : (execOp (ev r) ⟨dst, .indexAddr t x i, ty, pos, af, gd⟩).run P w = .ok (.value (.pointer (some ⟨g, o + j.toNat * sz, none⟩))) w := by
  unfold szOf at hz
  obtain ⟨inf, hq, hsz⟩ := Option.map_eq_some_iff.1 hz
  simp [execOp, hx, hi, Instr.indexAt, asIntOf, run_underlying (arrOf_un hu), Instr.sureAddr, h0, h1, sizeOf, typeInfo, hq, hsz, add_plain]
/-- An array's part, of a value. -/
theorem x_index {x i : Operand} {t e : TypeId} {k : IntKind} {j : Int} {len : Nat} {cs : List Value} {v : Value} (hu : arrOf P t = some (len, e)) (hz : szOf P e = some 1) (hs : scal P e = true) (hx : ev r x = .agg cs.toArray) (hi : ev r i = .int k j)
    (h0 : 0 ≤ j) (h1 : j < (len : Int)) (hv : cs[j.toNat]? = some v) : (execOp (ev r) ⟨dst, .index t x i, ty, pos, af, gd⟩).run P w = .ok (.value v) w := by
  unfold szOf at hz
  obtain ⟨inf, hq, hsz⟩ := Option.map_eq_some_iff.1 hz
  have hagg : (isAgg e).run P w = .ok false w := by
    unfold scal at hs
    cases hd : P.underlying e with
    | none => simp [hd] at hs
    | some d => cases d <;> simp [hd] at hs <;> simp [isAgg, run_underlying hd]
  simp [execOp, hx, hi, Instr.index, asIntOf, run_underlying (arrOf_un hu), h0, h1, sizeOf, typeInfo, hq, hsz, part, hagg, hv]
def fieldVal (P : Program) (s f : Nat) : Option Nat :=
  match P.underlying s with
  | some (.struct fs) => match fs[f]? with
    | some fl => if scal P fl.type then some fl.offset else none
    | none => none
  | _ => none
theorem run_isAgg_of_scal {e : TypeId} (hs : scal P e = true) : (isAgg e).run P w = .ok false w := by
  unfold scal at hs
  cases hd : P.underlying e with
  | none => simp [hd] at hs
  | some d => cases d <;> simp [hd] at hs <;> simp [isAgg, run_underlying hd]
theorem x_field {x : Operand} {t f off : Nat} {cs : List Value} {v : Value} (hf : fieldVal P t f = some off) (hx : ev r x = .agg cs.toArray) (hv : cs[off]? = some v) :
    (execOp (ev r) ⟨dst, .field t x f, ty, pos, af, gd⟩).run P w = .ok (.value v) w := by
  unfold fieldVal at hf
  split at hf
  · rename_i fs hs
    split at hf
    · rename_i fl hfl
      split at hf
      · rename_i hsc
        simp at hf; subst hf
        simp [execOp, hx, Instr.field, run_underlying hs, hfl, asAgg, part, run_isAgg_of_scal hsc, hv]
      · cases hf
    · cases hf
  · cases hf
/-! ### structs compared -/
def cellEq : TypeDesc → Value → Value → Option Bool
  | .int _, .int k a, .int k' b => if k = k' then some (a == b) else none
  | .bool, .bool a, .bool b => some (a == b)
  | _, _, _ => none
def eqL : List (TypeDesc × Nat) → List Value → List Value → Option Bool
  | [], _, _ => some true
  | [p], xs, ys => (xs[p.2]?).bind fun x => (ys[p.2]?).bind fun y => cellEq p.1 x y
  | p :: q :: l, xs, ys => (xs[p.2]?).bind fun x => (ys[p.2]?).bind fun y => (cellEq p.1 x y).bind fun b => (eqL (q :: l) xs ys).map (b && ·)
def scalDesc : Option TypeDesc → Option TypeDesc
  | some (.int k) => some (.int k)
  | some .bool => some .bool
  | _ => none
def planS (P : Program) (fs : List Field) : Option (List (TypeDesc × Nat)) :=
  fs.mapM fun f => if f.name = "_" then none else (scalDesc (P.underlying f.type)).map fun d => (d, f.offset)
def structOf (P : Program) (t : TypeId) : Option (List (TypeDesc × Nat)) :=
  match P.underlying t with
  | some (.struct fs) => if P.stoodInHeld t then none else planS P fs.toList
  | _ => none
theorem scalDesc_some {d e : TypeDesc} {o : Option TypeDesc} (h : scalDesc o = some d) : o = some d ∧ ((∃ k, d = .int k) ∨ d = .bool) := by
  cases o with
  | none => cases h
  | some x => cases x <;> simp [scalDesc] at h <;> subst h <;> simp
theorem scalDesc_some' {d : TypeDesc} {o : Option TypeDesc} (h : scalDesc o = some d) : o = some d ∧ ((∃ k, d = .int k) ∨ d = .bool) := by
  cases o with
  | none => cases h
  | some x => cases x <;> simp [scalDesc] at h <;> subst h <;> simp
theorem run_equalIn_cell {d : TypeDesc} {t : TypeId} {n : Nat} {x y : Value} {b : Bool} (hd : scalDesc (P.underlying t) = some d) (h : cellEq d x y = some b) : (Op.equalIn (n + 1) t x y).run P w = .ok b w := by
  obtain ⟨hu, hk⟩ := scalDesc_some' hd
  rcases hk with ⟨k, rfl⟩ | rfl
  · cases x <;> cases y <;> simp only [cellEq] at h <;> first | cases h | skip
    rename_i k1 a k2 b'
    split at h
    · rename_i hkk; subst hkk; cases h; simp [Op.equalIn, run_underlying hu]
    · cases h
  · cases x <;> cases y <;> simp only [cellEq] at h <;> first | cases h | skip
    simp [Op.equalIn, run_underlying hu]
theorem run_isAgg_scal {t : TypeId} {d : TypeDesc} (hd : scalDesc (P.underlying t) = some d) : (isAgg t).run P w = .ok false w := by
  obtain ⟨hu, hk⟩ := scalDesc_some' hd
  rcases hk with ⟨k, rfl⟩ | rfl <;> simp [isAgg, run_underlying hu]
theorem run_part_scal {t : TypeId} {d : TypeDesc} {xs : List Value} {o : Nat} {x : Value} (hd : scalDesc (P.underlying t) = some d) (h : xs[o]? = some x) : (part t xs.toArray o).run P w = .ok x w := by
  simp [part, run_isAgg_scal hd, h]
theorem run_eqFields_plan {n : Nat} {xs ys : List Value} : ∀ {fs : List Field} {pl : List (TypeDesc × Nat)} {b : Bool}, planS P fs = some pl → eqL pl xs ys = some b → (Op.eqFields (n + 1) xs.toArray ys.toArray fs).run P w = .ok b w
  | [], pl, b, hp, h => by
    simp [planS] at hp; subst hp
    simp [eqL] at h; subst h
    simp [Op.eqFields]
  | f :: fs, pl, b, hp, h => by
    simp only [planS, List.mapM_cons, Option.bind_eq_bind] at hp
    obtain ⟨p, hp1, hp⟩ := Option.bind_eq_some_iff.1 hp
    obtain ⟨pl', hp2, hp⟩ := Option.bind_eq_some_iff.1 hp
    simp at hp; subst hp
    split at hp1
    · cases hp1
    rename_i hnm
    obtain ⟨d, hd, rfl⟩ := Option.map_eq_some_iff.1 hp1
    have key : ∃ x y b0, xs[f.offset]? = some x ∧ ys[f.offset]? = some y ∧ cellEq d x y = some b0 ∧ ((b = b0 ∧ pl' = []) ∨ ∃ b1, eqL pl' xs ys = some b1 ∧ b = (b0 && b1)) := by
      cases pl' with
      | nil =>
        simp only [eqL] at h
        obtain ⟨x, hx, h⟩ := Option.bind_eq_some_iff.1 h
        obtain ⟨y, hy, h⟩ := Option.bind_eq_some_iff.1 h
        exact ⟨x, y, b, hx, hy, h, .inl ⟨rfl, rfl⟩⟩
      | cons q l =>
        simp only [eqL] at h
        obtain ⟨x, hx, h⟩ := Option.bind_eq_some_iff.1 h
        obtain ⟨y, hy, h⟩ := Option.bind_eq_some_iff.1 h
        obtain ⟨b0, h0, h⟩ := Option.bind_eq_some_iff.1 h
        obtain ⟨b1, h1, rfl⟩ := Option.map_eq_some_iff.1 h
        exact ⟨x, y, b0, hx, hy, h0, .inr ⟨b1, h1, rfl⟩⟩
    obtain ⟨x, y, b0, hx, hy, h0, hb⟩ := key
    have hrec : ∀ b1, eqL pl' xs ys = some b1 → (Op.eqFields (n + 1) xs.toArray ys.toArray fs).run P w = .ok b1 w := fun b1 h1 => run_eqFields_plan hp2 h1
    have hnm' : f.name ≠ "_" := hnm
    simp only [Op.eqFields, hnm', ne_eq, not_false_eq_true, if_true, Sem.run_bind, run_part_scal hd hx, run_part_scal hd hy, Result.andThen_ok, run_equalIn_cell hd h0]
    rcases hb with ⟨rfl, rfl⟩ | ⟨b1, h1, rfl⟩
    · cases b
      · simp
      · simp [hrec true rfl]
    · cases b0
      · simp
      · simp [hrec b1 h1]
theorem x_eqls {x y : Operand} {t t' : TypeId} {pl : List (TypeDesc × Nat)} {xs ys : List Value} {b : Bool} (hp : structOf P t = some pl) (hg : P.eqGuardType P.depth t = false) (hx : ev r x = .agg xs.toArray) (hy : ev r y = .agg ys.toArray) (he : eqL pl xs ys = some b) :
    (execOp (ev r) ⟨dst, .binOp .eql t x y t', ty, pos, af, gd⟩).run P w = .ok (.value (.bool b)) w := by
  unfold structOf at hp
  split at hp
  · rename_i fs hfs
    split at hp
    · cases hp
    · rename_i hst
      have hst : P.stoodInHeld t = false := by simpa using hst
      have hfo : P.fieldsOf t = fs := by simp [Program.fieldsOf, hfs]
      simp [execOp, hx, hy, run_eqGuard_agg (P := P) w _ t x y _ _ hg, run_eql_struct, run_equalIn_agg (P := P) w _ t _ _ (by rw [hfo]; exact hfs) hst, hfo, run_eqFields_plan hp he]
  · cases hp
theorem x_neqs {x y : Operand} {t t' : TypeId} {pl : List (TypeDesc × Nat)} {xs ys : List Value} {b : Bool} (hp : structOf P t = some pl) (hg : P.eqGuardType P.depth t = false) (hx : ev r x = .agg xs.toArray) (hy : ev r y = .agg ys.toArray) (he : eqL pl xs ys = some b) :
    (execOp (ev r) ⟨dst, .binOp .neq t x y t', ty, pos, af, gd⟩).run P w = .ok (.value (.bool (!b))) w := by
  unfold structOf at hp
  split at hp
  · rename_i fs hfs
    split at hp
    · cases hp
    · rename_i hst
      have hst : P.stoodInHeld t = false := by simpa using hst
      have hfo : P.fieldsOf t = fs := by simp [Program.fieldsOf, hfs]
      simp [execOp, hx, hy, run_eqGuard_agg (P := P) w _ t x y _ _ hg, run_neq_struct, run_equalIn_agg (P := P) w _ t _ _ (by rw [hfo]; exact hfs) hst, hfo, run_eqFields_plan hp he]
  · cases hp
end

/-! ### arrays compared -/
section
variable {P : Program} {r : Regs} {w : World} {dst : Option Tmp} {ty : TypeId} {pos : String} {af : Array Edge} {gd : Option (Nat × Bool)}
def arrPlan (P : Program) (t : TypeId) : Option (List (TypeDesc × Nat)) :=
  match P.underlying t with
  | some (.array n e) => if szOf P e = some 1 then (scalDesc (P.underlying e)).map fun d => (List.range n).map fun i => (d, i) else none
  | _ => none
def eqFrom (n : Nat) (e : TypeId) (xs ys : Array Value) : Nat → Nat → Sem Bool
  | 0, _ => pure true
  | k + 1, i => do
    if !(← Op.equalIn n e (← part e xs (i * 1)) (← part e ys (i * 1))) then return false
    eqFrom n e xs ys k (i + 1)
theorem run_eqFrom {n : Nat} {e : TypeId} {d : TypeDesc} {xs ys : List Value} (hd : scalDesc (P.underlying e) = some d) : ∀ (k i : Nat) (b : Bool), eqL ((List.range' i k).map fun i => (d, i)) xs ys = some b → (eqFrom (n + 1) e xs.toArray ys.toArray k i).run P w = .ok b w
  | 0, i, b, h => by
    simp [eqL] at h; subst h; simp [eqFrom]
  | k + 1, i, b, h => by
    have key : ∃ x y b0, xs[i]? = some x ∧ ys[i]? = some y ∧ cellEq d x y = some b0 ∧ ((b = b0 ∧ k = 0) ∨ ∃ b1, eqL ((List.range' (i + 1) k).map fun i => (d, i)) xs ys = some b1 ∧ b = (b0 && b1)) := by
      cases k with
      | zero =>
        replace h : eqL [(d, i)] xs ys = some b := h
        simp only [eqL] at h
        obtain ⟨x, hx, h⟩ := Option.bind_eq_some_iff.1 h
        obtain ⟨y, hy, h⟩ := Option.bind_eq_some_iff.1 h
        exact ⟨x, y, b, hx, hy, h, .inl ⟨rfl, rfl⟩⟩
      | succ k =>
        replace h : eqL ((d, i) :: (d, i + 1) :: (List.range' (i + 1 + 1) k).map fun i => (d, i)) xs ys = some b := h
        simp only [eqL] at h
        obtain ⟨x, hx, h⟩ := Option.bind_eq_some_iff.1 h
        obtain ⟨y, hy, h⟩ := Option.bind_eq_some_iff.1 h
        obtain ⟨b0, h0, h⟩ := Option.bind_eq_some_iff.1 h
        obtain ⟨b1, h1, rfl⟩ := Option.map_eq_some_iff.1 h
        exact ⟨x, y, b0, hx, hy, h0, .inr ⟨b1, h1, rfl⟩⟩
    obtain ⟨x, y, b0, hx, hy, h0, hb⟩ := key
    have hrec : ∀ b1, eqL ((List.range' (i + 1) k).map fun i => (d, i)) xs ys = some b1 → (eqFrom (n + 1) e xs.toArray ys.toArray k (i + 1)).run P w = .ok b1 w := fun b1 h1 => run_eqFrom hd k (i + 1) b1 h1
    simp only [eqFrom, Sem.run_bind, Nat.mul_one, run_part_scal hd hx, run_part_scal hd hy, Result.andThen_ok, run_equalIn_cell hd h0]
    rcases hb with ⟨rfl, rfl⟩ | ⟨b1, h1, rfl⟩
    · cases b
      · simp
      · simp [hrec true rfl]
    · cases b0
      · simp
      · simp [hrec b1 h1]
theorem run_equalIn_arr {m n : Nat} {t e : TypeId} {d : TypeDesc} {xs ys : List Value} {b : Bool} (ht : P.underlying t = some (.array m e)) (hz : szOf P e = some 1) (hd : scalDesc (P.underlying e) = some d) (h : eqL ((List.range m).map fun i => (d, i)) xs ys = some b) :
    (Op.equalIn (n + 2) t (.agg xs.toArray) (.agg ys.toArray)).run P w = .ok b w := by
  unfold szOf at hz
  obtain ⟨inf, hq, hsz⟩ := Option.map_eq_some_iff.1 hz
  rw [List.range_eq_range'] at h
  have h1 := run_eqFrom (P := P) (w := w) (n := n) hd m 0 b h
  rw [← h1]
  rw [Op.equalIn.eq_2]
  simp only [Sem.run_bind, run_underlying ht, Result.andThen_ok, sizeOf, typeInfo, hq, hsz, run_program, Sem.run_pure, Std.Legacy.Range.forIn_eq_forIn_range', Std.Legacy.Range.size, Nat.sub_zero, Nat.add_sub_cancel, Nat.div_one]
  clear h1 h ht hz
  generalize (0 : Nat) = i
  induction m generalizing i w with
  | zero => simp [eqFrom]
  | succ k ih =>
    rw [List.range'_succ, List.forIn_cons]
    simp only [eqFrom, Sem.run_bind]
    generalize (part e xs.toArray (i * 1)).run P w = r1
    cases r1 with
    | halt x w1 => simp [Result.andThen]
    | ok a w1 =>
      simp only [Result.andThen_ok]
      generalize (part e ys.toArray (i * 1)).run P w1 = r2
      cases r2 with
      | halt x w2 => simp [Result.andThen]
      | ok b w2 =>
        simp only [Result.andThen_ok]
        generalize (Op.equalIn (n + 1) e a b).run P w2 = r3
        cases r3 with
        | halt x w3 => simp [Result.andThen]
        | ok q w3 =>
          cases q
          · simp
          · simp only [Result.andThen_ok, Bool.not_true, Bool.false_eq_true, if_false, Sem.run_pure]
            exact ih (i + 1)
theorem x_eqlsArr {x y : Operand} {t t' : TypeId} {pl : List (TypeDesc × Nat)} {xs ys : List Value} {b : Bool} (hp : arrPlan P t = some pl) (hg : P.eqGuardType P.depth t = false) (hx : ev r x = .agg xs.toArray) (hy : ev r y = .agg ys.toArray) (he : eqL pl xs ys = some b) :
    (execOp (ev r) ⟨dst, .binOp .eql t x y t', ty, pos, af, gd⟩).run P w = .ok (.value (.bool b)) w := by
  unfold arrPlan at hp
  split at hp
  · rename_i m e ht
    split at hp
    · rename_i hz
      obtain ⟨d, hd, rfl⟩ := Option.map_eq_some_iff.1 hp
      simp [execOp, hx, hy, run_eqGuard_agg (P := P) w _ t x y _ _ hg, run_eql_struct, run_equalIn_arr ht hz hd he]
    · cases hp
  · cases hp
theorem x_neqsArr {x y : Operand} {t t' : TypeId} {pl : List (TypeDesc × Nat)} {xs ys : List Value} {b : Bool} (hp : arrPlan P t = some pl) (hg : P.eqGuardType P.depth t = false) (hx : ev r x = .agg xs.toArray) (hy : ev r y = .agg ys.toArray) (he : eqL pl xs ys = some b) :
    (execOp (ev r) ⟨dst, .binOp .neq t x y t', ty, pos, af, gd⟩).run P w = .ok (.value (.bool (!b))) w := by
  unfold arrPlan at hp
  split at hp
  · rename_i m e ht
    split at hp
    · rename_i hz
      obtain ⟨d, hd, rfl⟩ := Option.map_eq_some_iff.1 hp
      simp [execOp, hx, hy, run_eqGuard_agg (P := P) w _ t x y _ _ hg, run_neq_struct, run_equalIn_arr ht hz hd he]
    · cases hp
  · cases hp
end
/-! ### memory -/
section
variable {α : Type} {K : Kd α} {w : World} {ok : Okp}
theorem Rd.openAt {A : Option Addr} {c : Nat} {xs : List α} (h : Rd K w ok A c xs) {g o : Nat} (hA : A = some ⟨g, o, none⟩) {j : Nat} {x : α} (hx : xs[j]? = some x) :
    ∃ cs, K.rel w ok cs x ∧ CellsAt w g (o + j * K.sz) cs ∧ At w ok g := by
  have hne : xs ≠ [] := by rintro rfl; simp at hx
  obtain ⟨g', o', hA', hg, hc⟩ := h.2.2 hne
  rw [hA] at hA'
  simp only [Option.some.injEq, Addr.mk.injEq, and_true] at hA'
  obtain ⟨rfl, rfl⟩ := hA'
  obtain ⟨cs, hk, hat⟩ := hc _ x hx
  exact ⟨cs, hk, hat, hg⟩
theorem Chunks.of_at : ∀ {cs : List Value} {xs : List α}, cs.length = xs.length * K.sz → (∀ (i : Nat) (x : α), xs[i]? = some x → K.rel w ok ((cs.drop (i * K.sz)).take K.sz) x) → Chunks K w ok cs xs
  | cs, [], hl, _ => by
    show cs = []
    exact List.eq_nil_of_length_eq_zero (by simpa using hl)
  | cs, x :: xs, hl, h => by
    refine ⟨by simpa using h 0 x rfl, Chunks.of_at ?_ fun i y hi => ?_⟩
    · rw [List.length_drop, hl, List.length_cons, Nat.add_mul]; omega
    · rw [List.drop_drop]
      have := h (i + 1) y (by simpa using hi)
      rwa [show (i + 1) * K.sz = K.sz + i * K.sz by rw [Nat.add_mul, Nat.one_mul, Nat.add_comm]] at this
theorem Chunks.app : ∀ {cs : List Value} {xs : List α} {ds : List Value} {ys : List α}, Chunks K w ok cs xs → Chunks K w ok ds ys → Chunks K w ok (cs ++ ds) (xs ++ ys)
  | cs, [], ds, ys, h, hy => by
    have h0 : cs = [] := h
    subst h0
    simpa using hy
  | cs, x :: xs, ds, ys, h, hy => by
    obtain ⟨ce, rest, rfl, hl, hx, h2⟩ := h.split
    have := Chunks.join hx (Chunks.app h2 hy)
    simpa [List.append_assoc] using this
/-- All of what a slice that may be read holds, cell by cell. -/
theorem Rd.chunks {g o c : Nat} {xs : List α} (h : Rd K w ok (some ⟨g, o, none⟩) c xs) : ∃ news, CellsAt w g o news ∧ Chunks K w ok news xs := by
  have key : ∀ (ys : List α) (b : Nat), (∀ (i : Nat) (x : α), ys[i]? = some x → ∃ cs, K.rel w ok cs x ∧ CellsAt w g (b + i * K.sz) cs) → ∃ news, CellsAt w g b news ∧ Chunks K w ok news ys := by
    intro ys
    induction ys with
    | nil => exact fun b _ => ⟨[], fun j v hj => by simp at hj, rfl⟩
    | cons y ys ih =>
      intro b hb
      obtain ⟨cs, hk, hat⟩ := hb 0 y rfl
      obtain ⟨news, hn, hc⟩ := ih (b + K.sz) fun i x hi => by
        obtain ⟨cs, hk, hat⟩ := hb (i + 1) x (by simpa using hi)
        refine ⟨cs, hk, ?_⟩
        rwa [show b + (i + 1) * K.sz = b + K.sz + i * K.sz by rw [Nat.add_mul, Nat.one_mul]; omega] at hat
      have hl := K.len hk
      refine ⟨cs ++ news, fun j v hj => ?_, Chunks.join hk hc⟩
      rcases Nat.lt_or_ge j cs.length with hlt | hge
      · rw [List.getElem?_append_left hlt] at hj
        have := hat j v hj
        simpa using this
      · rw [List.getElem?_append_right hge] at hj
        have := hn (j - cs.length) v hj
        rwa [show b + K.sz + (j - cs.length) = b + j by omega] at this
  by_cases hne : xs = []
  · subst hne; exact ⟨[], fun j v hj => by simp at hj, rfl⟩
  · obtain ⟨g', o', hA, hg, hc⟩ := h.2.2 hne
    simp only [Option.some.injEq, Addr.mk.injEq, and_true] at hA
    obtain ⟨rfl, rfl⟩ := hA
    exact key xs o hc
end
section
variable {ok0 : Okp} {w0 w w' : World} {L : List Ent} {Rs : List RE}
theorem Sep.blkRd {i b t : Nat} {cs : List Value} (H : Sep ok0 w0 w L Rs) (hi : L[i]? = some (.blk b t cs)) : (RE.cells b 0 cs).rel w okT :=
  ⟨at_any (H.ents i _ hi), H.cells hi⟩
theorem Sep.cellsR {i g o : Nat} {cs : List Value} (H : Sep ok0 w0 w L Rs) (hi : Rs[i]? = some (RE.cells g o cs)) : CellsAt w g o cs := (H.rds i _ hi).2
theorem Sep.rowFlatAt {α : Type} {n : Nat} {enc : α → List Value} {hl : ∀ x, (enc x).length = n} {h1 : ∀ x, ∀ v ∈ enc x, v.oneCell' = true} {i j e c g : Nat} {A : Option Addr} {cs : List Value} {xs : List α} (H : Sep ok0 w0 w L Rs)
    (hi : L[i]? = some (.row (.slice A xs.length c) e (Kd.flat n enc hl h1).sz xs.length cs)) (hj : Rs[j]? = some (RE.chunks (Kd.flat n enc hl h1) cs xs)) (hA : A = some ⟨g, 0, none⟩) {m : Nat} {x : α} (hx : xs[m]? = some x) : CellsAt w g (0 + m * n) (enc x) := by
  obtain ⟨g', ce, hA', hr, hat⟩ := H.rowIdx (m := (m : Int)) hi hj hx
  rw [hA] at hA'
  simp only [Option.some.injEq, Addr.mk.injEq, and_true] at hA'
  subst hA'
  have : ce = enc x := hr
  subst this
  exact hat
/-- A variable that holds the elements of a literal: a slice that may be read. -/
theorem Sep.litRd {α : Type} {D : Kd α} {i b e : Nat} {cs : List Value} {xs : List α} (H : Sep ok0 w0 w L Rs) (hi : L[i]? = some (.blk b e cs)) (hc : Chunks D w okT cs xs) (hl : Nat.ble xs.length 9223372036854775807 = true) :
    Rd D w okT (some ⟨b, 0, none⟩) xs.length xs := by
  have hh := H.ents i _ hi
  refine ⟨Nat.le_refl _, Nat.le_of_ble_eq_true hl, fun hne => ⟨b, 0, rfl, at_any hh, fun j x hj => ⟨_, hc.at_ j x hj, ?_⟩⟩⟩
  refine CellsAt.of_heap (cur := cs) (t := e) (fr := (0, 0)) hh fun k v hk => ?_
  rw [List.getElem?_take] at hk
  split at hk
  · rw [List.getElem?_drop] at hk
    rw [← hk]; congr 1; omega
  · cases hk
theorem of_mem_pick {js : List Nat} {b : Nat} (h : b ∈ blks (js.filterMap (L[·]?))) : ∃ j e, j ∈ js ∧ L[j]? = some e ∧ b ∈ e.blks := by
  obtain ⟨i, e, hi, hb⟩ := of_mem_blks h
  obtain ⟨j, hj, he⟩ := List.mem_filterMap.1 (List.mem_of_getElem? hi)
  exact ⟨j, e, hj, he, hb⟩
theorem blks_nodup_at {L : List Ent} (hn : (blks L).Nodup) {i : Nat} {e : Ent} (hi : L[i]? = some e) : e.blks.Nodup := by
  induction L generalizing i with
  | nil => simp at hi
  | cons x L ih =>
    simp only [blks, List.nodup_append] at hn
    cases i with
    | zero => simp at hi; subst hi; exact hn.1
    | succ i => exact ih hn.2.1 (by simpa using hi)
theorem nodup_pick (hn : (blks L).Nodup) : ∀ (js : List Nat), js.Nodup → (blks (js.filterMap (L[·]?))).Nodup
  | [], _ => by simp [blks]
  | j :: js, h => by
    have h2 := List.nodup_cons.1 h
    cases hj : L[j]? with
    | none => simpa [List.filterMap_cons, hj] using nodup_pick hn js h2.2
    | some e =>
      rw [List.filterMap_cons, hj]
      show (e.blks ++ blks (js.filterMap (L[·]?))).Nodup
      refine nodup_app (blks_nodup_at hn hj) (nodup_pick hn js h2.2) fun x hx' hx => ?_
      obtain ⟨j', e', hj', he', hb⟩ := of_mem_pick hx'
      exact other_blk hn hj he' (fun h => h2.1 (h ▸ hj')) hx hb
/-- Some of the things of its own, in an order. -/
theorem Sep.pickL (h : Sep ok0 w0 w L Rs) (js : List Nat) (hn : js.Nodup) : Sep ok0 w0 w (js.filterMap (L[·]?)) Rs := by
  refine h.step h.bas (Nat.le_refl _) ?_ (fun b hb => ?_) (nodup_pick h.nodup js hn) fun b hb hl => ⟨fun hb' => ?_, rfl⟩
  · intro i e hi
    obtain ⟨j, _, he⟩ := List.mem_filterMap.1 (List.mem_of_getElem? hi)
    exact h.ents j e he
  · obtain ⟨j, e, _, he, hb⟩ := of_mem_pick hb
    exact h.ge b (mem_blks he hb)
  · obtain ⟨j, e, _, he, hb2⟩ := of_mem_pick hb'
    exact hb (mem_blks he hb2)
theorem Sep.nilHole (H : Sep ok0 w0 w L Rs) : Sep ok0 w0 w (L ++ [.hole]) Rs :=
  H.push _ (Below.refl _ w) (show True from trivial) (by simp [Ent.blks]) (by simp [Ent.blks])
theorem Sep.nilRowK {α : Type} (H : Sep ok0 w0 w L Rs) (t : Nat) (D : Kd α) : Sep ok0 w0 w (L ++ [.row (.slice none 0 0) t D.sz 0 []]) (Rs ++ [RE.chunks D [] []]) :=
  (H.nilRow t D.sz).also (re := RE.chunks D [] []) rfl
theorem okS_set {i : Nat} {e e' : Ent} (hi : L[i]? = some e) (he : e'.blks = e.blks) : okS ok0 w0 (L.set i e') = okS ok0 w0 L := by
  simp only [okS, blks_set hi he]
/-- A literal's own memory becomes a row. -/
theorem Sep.rowOf {α : Type} {D : Kd α} {i b e : Nat} {cs : List Value} {xs : List α} (H : Sep ok0 w0 w L Rs) (hi : L[i]? = some (.blk b e cs)) (hc : Chunks D w (okS ok0 w0 L) cs xs) (hl : Nat.ble xs.length 9223372036854775807 = true) :
    Sep ok0 w0 w (L.set i (.row (.slice (some ⟨b, 0, none⟩) xs.length xs.length) e D.sz xs.length cs)) (Rs ++ [RE.chunks D cs xs]) := by
  have hh := H.ents i _ hi
  have hbl : (Ent.row (.slice (some ⟨b, 0, none⟩) xs.length xs.length) e D.sz xs.length cs).blks = (Ent.blk b e cs).blks := by simp [Ent.blks, Value.ownBlock]
  have h1 := H.upd_ (w' := w) (e' := .row (.slice (some ⟨b, 0, none⟩) xs.length xs.length) e D.sz xs.length cs) hi hbl
    ⟨hc.len, .inr ⟨b, xs.length, cs.toArray, rfl, Nat.zero_le _, hh, Nat.le_refl _, Nat.le_of_ble_eq_true hl, by simpa using hc.len, by simp [List.take_of_length_le (Nat.le_of_eq hc.len)]⟩⟩ rfl rfl rfl rfl fun _ _ => rfl
  exact h1.also (re := RE.chunks D cs xs) (by rw [okS_set hi hbl]; exact hc)
end
section
variable {P : Program} {ops : Array Oper} {n : Nat} {r : Regs} {ok0 : Okp} {w0 w : World} {K : Regs → World → Prop} {L : List Ent} {Rs : List RE} {d : Nat} {ty : TypeId} {pos : String} {af : Array Edge} {gd : Option (Nat × Bool)}
theorem O_buildSlice {t e len sz : Nat} {ps : List (Nat × Operand)} {vs : List (Nat × Value)} {cs : List Value} {z : Value} (hw : wantedR ops r ⟨some d, .buildSlice t len ps.toArray, ty, pos, af, gd⟩ = true) (hn : Nat.blt d n = true)
    (hu : slElem P t = some e) (hz : szOf P e = some sz) (hz0 : zeroOf P e = some z) (hs : Nat.ble (len * sz) 16777216 = true) (hp : Nat.blt 0 (len * sz) = true) (hv : ps.map (fun p => (p.1, ev r p.2)) = vs)
    (hf : Instr.fill (fun i => some (i * sz, sz)) ((Array.range (len * sz)).map (z.cells[· % z.cells.size]!)) vs = some cs.toArray) (H : Sep ok0 w0 w L Rs)
    (h : ∀ w' b, Sep ok0 w0 w' (L ++ [.blk b e cs]) Rs → K (upd r d (.slice (some ⟨b, 0, none⟩) len len)) w') : OpR P ops n ⟨some d, .buildSlice t len ps.toArray, ty, pos, af, gd⟩ r w K := by
  subst hv
  unfold szOf at hz; unfold zeroOf at hz0
  obtain ⟨inf, hq, rfl⟩ := Option.map_eq_some_iff.1 hz
  simp only [hq, Option.bind_some] at hz0
  have hrun := run_buildSlice (P := P) w t e len ((ps.map fun p => (p.1, ev r p.2)).toArray) cs.toArray inf z (slElem_un hu) hq hz0 (by have := Nat.le_of_ble_eq_true hs; omega) (by have := lt_of_blt hp; omega) hf
  refine OpR_val hw rfl hn (v := .slice (some ⟨w.heap.size, 0, none⟩) len len) (w' := w.alloc (.cells cs.toArray e)) ?_ (h _ _ (H.alloc e cs))
  simp only [execOp, Sem.run_bind]
  rw [show (ps.toArray.map fun (x : Nat × Operand) => match x with | (i, x) => (i, ev r x)) = (ps.map fun p => (p.1, ev r p.2)).toArray by simp, hrun]
  rfl
theorem run_append_none {w : World} {base : Nat} {t ty e : TypeId} {i : TypeInfo} {size : Nat} (ht : P.underlying t = some (.slice e)) (hi : P.info? e = some i) {v : Value} {n : Nat} {xs : List Value} (hown : w.ownsRow base e size v n xs) (c2 : Nat) :
    (Builtin.append_ #[t, t] ty #[v, .slice none 0 c2]).run P w = .ok v w := by
  rcases hown.2 with ⟨rfl, rfl⟩ | ⟨g, cap, cur, rfl, _, _, hnc, _⟩
  · simp [Builtin.append_, run_underlying ht, sizeOf, typeInfo, hi, Builtin.lenOf, Builtin.firstCells]
  · simp [Builtin.append_, run_underlying ht, sizeOf, typeInfo, hi, Builtin.lenOf, Builtin.firstCells, hnc, storeCells]
/-- append(v, s...): all of s. -/
theorem O_appendAll {α : Type} {D : Kd α} {s x : Operand} {t e i j c2 c bytes : Nat} {A A2 : Option Addr} {cs : List Value} {xs ys zs : List α} {z : Value}
    (hw : wantedR ops r ⟨some d, .call { callee := .builtin .append, args := #[s, x], argTypes := #[t, t] }, ty, pos, af, gd⟩ = true) (hn : Nat.blt d n = true)
    (hs : ev r s = .slice A xs.length c) (hx : ev r x = .slice A2 zs.length c2) (H : Sep ok0 w0 w L Rs) (hi : L[i]? = some (.row (.slice A xs.length c) e D.sz xs.length cs)) (hj : Rs[j]? = some (RE.chunks D cs xs))
    (hr : Rd D w (okS ok0 w0 L) A2 c2 zs) (hys : xs ++ zs = ys)
    (hu : slElem P t = some e) (hz : szOf P e = some D.sz) (hby : bytesOf P e = some bytes) (hz0 : zeroOf P e = some z) (hzs : z.cells.size = D.sz) (hpos : Nat.blt 0 D.sz = true) (hb : (xs.length + zs.length) * bytes ≤ 140737488355328) (hb0 : Nat.blt 0 bytes = true)
    (h : ∀ w' A' c' cs', Sep ok0 w0 w' (L.set i (.row (.slice A' ys.length c') e D.sz ys.length cs')) (Rs.set j (RE.chunks D cs' ys)) → K (upd r d (.slice A' ys.length c')) w') :
    OpR P ops n ⟨some d, .call { callee := .builtin .append, args := #[s, x], argTypes := #[t, t] }, ty, pos, af, gd⟩ r w K := by
  unfold szOf at hz; unfold bytesOf at hby; unfold zeroOf at hz0
  obtain ⟨inf, hq, hsz⟩ := Option.map_eq_some_iff.1 hz
  simp only [hq, Option.map_some, Option.some.injEq, Option.bind_some] at hby hz0
  have hrow := H.ents i _ hi
  have hch : Chunks D w (okS ok0 w0 L) cs xs := H.rds j _ hj
  have hlen : xs.length + zs.length ≤ 140737488355328 := Nat.le_trans (Nat.le_mul_of_pos_right _ (lt_of_blt hb0)) hb
  have hmain : ∃ news v' w', Chunks D w (okS ok0 w0 L) news zs ∧ (Builtin.append_ #[t, t] ty #[.slice A xs.length c, .slice A2 zs.length c2]).run P w = .ok v' w' ∧ w'.ownsRow 0 e D.sz v' (xs.length + zs.length) (cs ++ news) ∧
      w.grownBy w' (Value.slice A xs.length c).ownBlock ∧ (v'.ownBlock = (Value.slice A xs.length c).ownBlock ∨ v'.ownBlock = some w.heap.size) := by
    cases A2 with
    | none =>
      have hnil : zs = [] := by
        by_cases hne : zs = []
        · exact hne
        · obtain ⟨g, o, hA, _⟩ := hr.2.2 hne; cases hA
      subst hnil
      have hrow' : w.ownsRow 0 e D.sz (.slice A xs.length c) xs.length cs := hrow
      refine ⟨[], _, w, rfl, run_append_none (slElem_un hu) hq hrow' c2, by simpa using hrow', ⟨rfl, rfl, rfl, Nat.le_refl _, fun _ _ _ => rfl⟩, .inl rfl⟩
    | some a =>
      have hnews : ∃ news, (∀ j u, news[j]? = some u → w.cell? (a.add j) = some u) ∧ Chunks D w (okS ok0 w0 L) news zs := by
        by_cases hne : zs = []
        · subst hne; exact ⟨[], fun j v hj => by simp at hj, rfl⟩
        · obtain ⟨g, o, hA, _⟩ := hr.2.2 hne
          cases hA
          obtain ⟨news, h1, h2⟩ := hr.chunks
          exact ⟨news, fun k u hk => by rw [add_plain]; exact h1 k u hk, h2⟩
      obtain ⟨news, hat, hcn⟩ := hnews
      obtain ⟨v', w', hrun, hown, hg, _, hat'⟩ := run_append_own_at (P := P) w 0 t ty e inf z D.sz bytes (slElem_un hu) hq hz0 hsz hby hzs (lt_of_blt hpos) _ xs.length cs hrow a zs.length c2 news hcn.len
        hat hcn.one (by simp only [maxLen]; omega) hb (Nat.zero_le _)
      exact ⟨news, v', w', hcn, hrun, hown, hg, hat'⟩
  obtain ⟨news, v', w', hcn, hrun, hown, hg, hat⟩ := hmain
  obtain ⟨A', c', rfl, hform⟩ := own_form hown
  have hl : xs.length + zs.length = ys.length := by subst hys; simp
  rw [hl] at hown hrun
  refine OpR_val hw rfl hn (v := .slice A' ys.length c') (w' := w') ?_ (h w' A' c' (cs ++ news) ?_)
  · simp [execOp, resolve, invoke, builtin, hs, hx, hrun]
  · have hlt : ∀ b, (Value.slice A' ys.length c').ownBlock = some b → b < w'.heap.size := fun b hb => (hown.lt b hb).2
    have hS := H.grow (w' := w') (e' := .row (.slice A' ys.length c') e D.sz ys.length (cs ++ news)) hi hown hg.size hg.os hg.tape hg.output (fun k hk hk' => hg.block k hk (fun he => hk' (by simp [Ent.blks, ← he])))
      (by simp only [Ent.blks]; cases (Value.slice A' ys.length c').ownBlock <;> simp) (fun b hb => by
        simp only [Ent.blks, Option.mem_toList] at hb
        have hb' : (Value.slice A' ys.length c').ownBlock = some b := hb
        refine ⟨?_, hlt b hb'⟩
        rw [← hl] at hb'
        rcases hat with h1 | h1
        · rw [h1] at hb'
          exact .inl (by simp [Ent.blks, hb'])
        · rw [h1] at hb'
          exact .inr (by simp at hb'; omega))
    refine hS.setR j ?_
    have hm : Mov w w' (okS ok0 w0 L) (okS ok0 w0 (L.set i (.row (.slice A' ys.length c') e D.sz ys.length (cs ++ news)))) := ⟨hg.size, fun b ob ho hb => ?_⟩
    · subst hys
      exact (hch.keep hm).app (hcn.keep hm)
    · have hnb : b ∉ (Ent.row (.slice A xs.length c) e D.sz xs.length cs).blks := fun hb' => hb.1 (mem_blks hi hb')
      refine ⟨⟨fun hb' => ?_, hb.2⟩, hg.block b (lt_of_heap ho) (fun he => hnb (by simp [Ent.blks, ← he]))⟩
      rcases mem_blks_set hb' with ⟨h1, _⟩ | ⟨k, e2, hk, he2, h1⟩
      · simp only [Ent.blks, Option.mem_toList] at h1
        have h1' : (Value.slice A' ys.length c').ownBlock = some b := h1
        rw [← hl] at h1'
        rcases hat with h2 | h2
        · rw [h2] at h1'; exact hnb (by simp [Ent.blks, h1'])
        · rw [h2] at h1'; simp at h1'; have := lt_of_heap ho; omega
      · exact hb.1 (mem_blks he2 h1)
end
section
variable {P : Program} {ops : Array Oper} {n : Nat} {r : Regs} {ok0 : Okp} {w0 w : World} {K : Regs → World → Prop} {L : List Ent} {Rs : List RE} {d : Nat} {dst : Option Tmp} {ty : TypeId} {pos : String} {af : Array Edge} {gd : Option (Nat × Bool)}
theorem run_equalIn_nil {t e : TypeId} {A : Option Addr} {m c k : Nat} (hu : P.underlying t = some (.slice e)) : (Op.equalIn (k + 1) t (.slice A m c) (.slice none 0 0)).run P w = .ok A.isNone w := by
  cases A with
  | none => simp [Op.equalIn, run_underlying hu]
  | some a => simp [Op.equalIn, run_underlying hu]
theorem x_eqnil {x : Operand} {t t' e : TypeId} {A : Option Addr} {m c : Nat} (hu : slElem P t = some e) (hx : ev r x = .slice A m c) :
    (execOp (ev r) ⟨dst, .binOp .eql t x (.const (.slice none 0 0)) t', ty, pos, af, gd⟩).run P w = .ok (.value (.bool A.isNone)) w := by
  have h1 : (binOp .eql t (.slice A m c) (.slice none 0 0)).run P w = .ok (.bool A.isNone) w := by
    have : binOp .eql t (.slice A m c) (.slice none 0 0) = (do pure (.bool (← Op.equal t (.slice A m c) (.slice none 0 0)))) := rfl
    rw [this, Sem.run_bind]
    rw [show Op.equal t (.slice A m c) (.slice none 0 0) = Op.equalIn (9999 + 1) t (.slice A m c) (.slice none 0 0) from rfl, run_equalIn_nil (slElem_un hu)]
    rfl
  have h2 : (eqGuard .eql t x (.const (.slice none 0 0)) (.slice A m c) (.slice none 0 0)).run P w = .ok () w := by simp [eqGuard]
  show Sem.run P (do let v ← (do eqGuard .eql t x (.const (.slice none 0 0)) (ev r x) (.slice none 0 0); binOp .eql t (ev r x) (.slice none 0 0)); pure (Next.value v)) w = _
  rw [hx]
  simp only [Sem.run_bind, h2, Result.andThen_ok, h1, Sem.run_pure]
/-- An empty literal: a row of the call's own. -/
theorem O_buildSlice0 {α : Type} {D : Kd α} {t e : Nat} (hw : wantedR ops r ⟨some d, .buildSlice t 0 #[], ty, pos, af, gd⟩ = true) (hn : Nat.blt d n = true) (hu : slElem P t = some e) (hz : szOf P e = some D.sz) (H : Sep ok0 w0 w L Rs)
    (h : ∀ w' b, Sep ok0 w0 w' (L ++ [.row (.slice (some ⟨b, 0, none⟩) 0 0) e D.sz 0 []]) (Rs ++ [RE.chunks D [] []]) → K (upd r d (.slice (some ⟨b, 0, none⟩) 0 0)) w') : OpR P ops n ⟨some d, .buildSlice t 0 #[], ty, pos, af, gd⟩ r w K := by
  unfold szOf at hz
  obtain ⟨inf, hq, hsz⟩ := Option.map_eq_some_iff.1 hz
  refine OpR_val hw rfl hn (v := .slice (some ⟨w.heap.size, 0, none⟩) 0 0) (w' := w.alloc (.cells #[] e)) ?_ (h _ w.heap.size ?_)
  · simp [execOp, Instr.buildSlice, run_underlying (slElem_un hu), sizeOf, typeInfo, hq, Instr.fill, newRow]
    rw [show Array.range 0 = #[] from Array.eq_empty_of_size_eq_zero (by simp), Array.map_empty]
  · have h1 := H.alloc e []
    have h2 := h1.rowOf (D := D) (i := L.length) (b := w.heap.size) (e := e) (cs := []) (xs := []) (by simp) rfl (by rfl)
    have : (L ++ [Ent.blk w.heap.size e []]).set L.length (.row (.slice (some ⟨w.heap.size, 0, none⟩) 0 0) e D.sz 0 []) = L ++ [.row (.slice (some ⟨w.heap.size, 0, none⟩) 0 0) e D.sz 0 []] := by simp
    rw [← this]; exact h2
end
section
variable {P : Program} {ops : Array Oper} {n : Nat} {r : Regs} {ok0 : Okp} {w0 w : World} {K : Regs → World → Prop} {L : List Ent} {Rs : List RE} {d : Nat} {dst : Option Tmp} {ty : TypeId} {pos : String} {af : Array Edge} {gd : Option (Nat × Bool)}
theorem chunks_made {α : Type} {D : Kd α} {z : Value} {x0 : α} (hzs : z.cells.size = D.sz) (hr : ∀ w ok, D.rel w ok z.cells.toList x0) {w : World} {ok : Okp} (m : Nat) : Chunks D w ok (madeCells z.cells (m * D.sz)).toList (List.replicate m x0) := by
  refine Chunks.of_at (by simp [size_madeCells]) fun i x hi => ?_
  have hi' : i < m := by
    have := (List.getElem?_eq_some_iff.1 hi).1
    simpa using this
  have hx : x = x0 := by
    rw [List.getElem?_replicate] at hi
    rw [if_pos hi'] at hi
    exact (Option.some.inj hi).symm
  subst hx
  have hle : i * D.sz + D.sz ≤ m * D.sz := by
    have := Nat.mul_le_mul_right D.sz (show i + 1 ≤ m by omega)
    rwa [Nat.add_mul, Nat.one_mul] at this
  have : ((madeCells z.cells (m * D.sz)).toList.drop (i * D.sz)).take D.sz = z.cells.toList := by
    apply List.ext_getElem?
    intro j
    by_cases hj : j < D.sz
    · rw [List.getElem?_take, if_pos hj, List.getElem?_drop]
      have h1 : i * D.sz + j < m * D.sz := by omega
      have h2 : (i * D.sz + j) % z.cells.size = j := by rw [hzs, Nat.mul_comm, Nat.mul_add_mod, Nat.mod_eq_of_lt hj]
      have h3 : j < z.cells.size := by omega
      simp [madeCells, h1, h2, h3]
    · rw [List.getElem?_take, if_neg hj, List.getElem?_eq_none (by simp; omega)]
  rw [this]
  exact hr w ok
theorem O_makeSlice {α : Type} {D : Kd α} {t e bytes : Nat} {x y : Operand} {k k' : IntKind} {m : Int} {z : Value} {x0 : α} {ys : List α} (hw : wantedR ops r ⟨some d, .makeSlice t x y, ty, pos, af, gd⟩ = true) (hn : Nat.blt d n = true) (hx : ev r x = .int k m) (hy : ev r y = .int k' m)
    (hu : slElem P t = some e) (hz : szOf P e = some D.sz) (hby : bytesOf P e = some bytes) (hz0 : zeroOf P e = some z) (hzs : z.cells.size = D.sz) (hr : ∀ w ok, D.rel w ok z.cells.toList x0) (h0 : 0 ≤ m) (hys : List.replicate m.toNat x0 = ys) (hb : m * bytes ≤ 140737488355328) (H : Sep ok0 w0 w L Rs)
    (hbp : Nat.blt 0 bytes = true)
    (h : ∀ w' b cs, Sep ok0 w0 w' (L ++ [.row (.slice (some ⟨b, 0, none⟩) ys.length ys.length) e D.sz ys.length cs]) (Rs ++ [RE.chunks D cs ys]) → K (upd r d (.slice (some ⟨b, 0, none⟩) ys.length ys.length)) w') : OpR P ops n ⟨some d, .makeSlice t x y, ty, pos, af, gd⟩ r w K := by
  subst hys
  unfold szOf at hz; unfold bytesOf at hby; unfold zeroOf at hz0
  obtain ⟨inf, hq, hsz⟩ := Option.map_eq_some_iff.1 hz
  simp only [hq, Option.map_some, Option.some.injEq, Option.bind_some] at hby hz0
  obtain ⟨c, rfl⟩ : ∃ c : Nat, m = (c : Int) := ⟨m.toNat, by omega⟩
  have hb' : c * bytes ≤ 140737488355328 := by
    have : ((c * bytes : Nat) : Int) ≤ 140737488355328 := by rw [Int.natCast_mul]; exact hb
    omega
  have hlen : c ≤ 140737488355328 := Nat.le_trans (Nat.le_mul_of_pos_right _ (lt_of_blt hbp)) hb'
  obtain ⟨w', hrun, hown, hg⟩ := run_make_full (P := P) w 0 t e inf z D.sz (slElem_un hu) hq hz0 hsz k k' c (by rw [hby, Nat.mul_comm]; omega) (by simp only [maxLen]; omega) (Nat.zero_le _)
  have hl : (List.replicate (c : Int).toNat x0).length = c := by simp
  have hlt := (hown.lt w.heap.size rfl).2
  refine OpR_val hw rfl hn (v := .slice (some ⟨w.heap.size, 0, none⟩) (List.replicate (c : Int).toNat x0).length (List.replicate (c : Int).toNat x0).length) (w' := w') ?_ (h w' w.heap.size (madeCells z.cells (c * D.sz)).toList ?_)
  · rw [hl]
    simp [execOp, hx, hy, hrun]
  · have hbl : Below w.heap.size w w' := ⟨hg.os, hg.tape, hg.output, hg.size, fun i hi => hg.block i hi (by simp)⟩
    have h1 := H.push (e := .row (.slice (some ⟨w.heap.size, 0, none⟩) (List.replicate (c : Int).toNat x0).length (List.replicate (c : Int).toNat x0).length) e D.sz (List.replicate (c : Int).toNat x0).length (madeCells z.cells (c * D.sz)).toList) (w' := w') hbl (by rw [hl]; exact hown) (by simp [Ent.blks, Value.ownBlock]; exact hlt) (by simp [Ent.blks, Value.ownBlock])
    refine h1.also (re := RE.chunks D _ _) ?_
    have := chunks_made (D := D) (w := w') (ok := okS ok0 w0 (L ++ [.row (.slice (some ⟨w.heap.size, 0, none⟩) (List.replicate (c : Int).toNat x0).length (List.replicate (c : Int).toNat x0).length) e D.sz (List.replicate (c : Int).toNat x0).length (madeCells z.cells (c * D.sz)).toList])) hzs hr c
    show Chunks D w' _ _ _
    simpa using this
end
end Go.Proofs.YtobkigllalbkiaaV

/- Slices cut out of slices, and copy(). Nothing here names a program. -/
set_option linter.unusedVariables false
set_option linter.unusedSimpArgs false
namespace Go.Proofs.YtobkigllalbkiaaV
open Go.RowKit

/-- Where a slice begins that is cut out of one. -/
def slA (A : Option Addr) (m l sz : Nat) : Option Addr := if m = l then A else A.map (·.add (l * sz))
section
variable {P : Program} {r : Regs} {w : World} {dst : Option Tmp} {ty : TypeId} {pos : String} {af : Array Edge} {gd : Option (Nat × Bool)}
theorem run_slice_lo {t e : TypeId} {sz n c : Nat} {A : Option Addr} {k : IntKind} {j : Int} (hu : slElem P t = some e) (hz : szOf P e = some sz) (h0 : 0 ≤ j) (h1 : j ≤ (n : Int)) :
    (Instr.sliceAt t (.slice A n c) (some (.int k j)) none none).run P w = .ok (.slice (slA A c j.toNat sz) (n - j.toNat) (c - j.toNat)) w := by
  unfold szOf at hz
  obtain ⟨inf, hq, hsz⟩ := Option.map_eq_some_iff.1 hz
  have hu' := slElem_un hu
  simp [Instr.sliceAt, run_underlying hu', Instr.slice, Instr.sliceBounds, run_sliceBound, h0, h1, sizeOf, typeInfo, hq, hsz, slA]
theorem x_slice_lo {x i : Operand} {t e : TypeId} {sz n c : Nat} {A : Option Addr} {k : IntKind} {j : Int} (hu : slElem P t = some e) (hz : szOf P e = some sz) (hx : ev r x = .slice A n c) (hi : ev r i = .int k j) (h0 : 0 ≤ j) (h1 : j ≤ (n : Int)) :
    (execOp (ev r) ⟨dst, .slice t x (some i) none none, ty, pos, af, gd⟩).run P w = .ok (.value (.slice (slA A c j.toNat sz) (n - j.toNat) (c - j.toNat))) w := by
  simp only [execOp, hx, hi, Option.map_some, Option.map_none, Sem.run_bind, run_slice_lo hu hz h0 h1, Result.andThen_ok, Sem.run_pure]
theorem x_slice_hi {x i : Operand} {t e : TypeId} {sz n c : Nat} {A : Option Addr} {k : IntKind} {j : Int} (hu : slElem P t = some e) (hz : szOf P e = some sz) (hx : ev r x = .slice A n c) (hi : ev r i = .int k j) (h0 : 0 ≤ j) (h1 : j ≤ (c : Int)) :
    (execOp (ev r) ⟨dst, .slice t x none (some i) none, ty, pos, af, gd⟩).run P w = .ok (.value (.slice (slA A c 0 sz) j.toNat c)) w := by
  unfold szOf at hz
  obtain ⟨inf, hq, hsz⟩ := Option.map_eq_some_iff.1 hz
  have hu' := slElem_un hu
  simp [execOp, hx, hi, Instr.sliceAt, run_underlying hu', Instr.slice, Instr.sliceBounds, run_sliceBound, h0, h1, sizeOf, typeInfo, hq, hsz, slA]
theorem x_slice_lh {x i i2 : Operand} {t e : TypeId} {sz n c : Nat} {A : Option Addr} {k k2 : IntKind} {j j2 : Int} (hu : slElem P t = some e) (hz : szOf P e = some sz) (hx : ev r x = .slice A n c) (hi : ev r i = .int k j) (hi2 : ev r i2 = .int k2 j2) (h0 : 0 ≤ j) (h1 : j ≤ j2) (h2 : j2 ≤ (c : Int)) :
    (execOp (ev r) ⟨dst, .slice t x (some i) (some i2) none, ty, pos, af, gd⟩).run P w = .ok (.value (.slice (slA A c j.toNat sz) (j2.toNat - j.toNat) (c - j.toNat))) w := by
  unfold szOf at hz
  obtain ⟨inf, hq, hsz⟩ := Option.map_eq_some_iff.1 hz
  have hu' := slElem_un hu
  have h3 : 0 ≤ j2 := Int.le_trans h0 h1
  have h4 : j ≤ (j2.toNat : Int) := by omega
  have hb := run_sliceBound (P := P) w k j j2.toNat .sliceB h0 h4
  simp [execOp, hx, hi, hi2, Instr.sliceAt, run_underlying hu', Instr.slice, Instr.sliceBounds, run_sliceBound (P := P) w k2 j2 c .sliceAcap h3 h2, hb, sizeOf, typeInfo, hq, hsz, slA]
end
section
variable {α : Type} {K : Kd α} {w : World} {ok : Okp}
theorem Chunks.takeN : ∀ {cs : List Value} {xs : List α} (m : Nat), Chunks K w ok cs xs → Chunks K w ok (cs.take (m * K.sz)) (xs.take m)
  | cs, [], m, h => by
    have : cs = [] := h
    subst this; simp; rfl
  | cs, x :: xs, 0, h => by simp; rfl
  | cs, x :: xs, m + 1, h => by
    obtain ⟨ce, rest, rfl, hl, hx, h2⟩ := h.split
    have ih := Chunks.takeN m h2
    have e1 : (m + 1) * K.sz = ce.length + m * K.sz := by rw [hl, Nat.add_mul]; omega
    rw [e1, List.take_length_add_append, List.take_succ_cons]
    exact Chunks.join hx ih
theorem Chunks.dropN : ∀ {cs : List Value} {xs : List α} (m : Nat), Chunks K w ok cs xs → Chunks K w ok (cs.drop (m * K.sz)) (xs.drop m)
  | cs, [], m, h => by
    have : cs = [] := h
    subst this; simp; rfl
  | cs, x :: xs, 0, h => by simpa using h
  | cs, x :: xs, m + 1, h => by
    obtain ⟨ce, rest, rfl, hl, hx, h2⟩ := h.split
    have ih := Chunks.dropN m h2
    have e1 : (m + 1) * K.sz = ce.length + m * K.sz := by rw [hl, Nat.add_mul]; omega
    rw [e1, List.drop_length_add_append, List.drop_succ_cons]
    exact ih
/-- Where the elements of what is copied lie. -/
def SrcAt (K : Kd α) (w : World) (ok : Okp) (A : Option Addr) (zs : List α) : Prop :=
  (zs = []) ∨ ∃ g o news, A = some ⟨g, o, none⟩ ∧ CellsAt w g o news ∧ Chunks K w ok news zs
theorem Rd.src {A : Option Addr} {c : Nat} {xs : List α} (h : Rd K w ok A c xs) : SrcAt K w ok A xs := by
  by_cases hne : xs = []
  · exact .inl hne
  · obtain ⟨g, o, hA, _⟩ := h.2.2 hne
    subst hA
    obtain ⟨news, h1, h2⟩ := h.chunks
    exact .inr ⟨g, o, news, rfl, h1, h2⟩
/-- A copy's outcome. -/
def cpyV (xs : List α) (lo dn : Nat) (zs : List α) : List α := xs.take lo ++ zs.take (min zs.length dn) ++ xs.drop (lo + min zs.length dn)
theorem length_cpyV {xs zs : List α} {lo dn : Nat} (h : lo + dn ≤ xs.length) : (cpyV xs lo dn zs).length = xs.length := by
  simp [cpyV]; omega
end
section
variable {ok0 : Okp} {w0 w w' : World} {L : List Ent} {Rs : List RE}
/-- What a row of its own begins at. -/
theorem Sep.rowForm {α : Type} {D : Kd α} {i e c : Nat} {A : Option Addr} {cs : List Value} {xs : List α} (H : Sep ok0 w0 w L Rs) (hi : L[i]? = some (.row (.slice A xs.length c) e D.sz xs.length cs)) :
    xs.length ≤ c ∧ (A = none ∧ xs = [] ∧ c = 0 ∨ ∃ g, A = some ⟨g, 0, none⟩) := by
  have hrow := H.ents i _ hi
  rcases hrow.2 with ⟨hv, h0⟩ | ⟨g, cap, cur, hv, _, hh, hnc, _⟩
  · simp only [Value.slice.injEq] at hv
    obtain ⟨rfl, h1, rfl⟩ := hv
    have : xs = [] := List.eq_nil_of_length_eq_zero h1
    subst this
    exact ⟨by simp, .inl ⟨rfl, rfl, rfl⟩⟩
  · simp only [Value.slice.injEq] at hv
    obtain ⟨rfl, _, rfl⟩ := hv
    exact ⟨hnc, .inr ⟨g, rfl⟩⟩
theorem Sep.rowA0 {α : Type} {D : Kd α} {i e c : Nat} {A : Option Addr} {cs : List Value} {xs : List α} (H : Sep ok0 w0 w L Rs) (hi : L[i]? = some (.row (.slice A xs.length c) e D.sz xs.length cs)) : A = slA A c 0 D.sz := by
  rcases (H.rowForm hi).2 with ⟨rfl, _⟩ | ⟨g, rfl⟩
  · unfold slA; split <;> rfl
  · unfold slA; split <;> simp [add_plain]
theorem Sep.rowCells {α : Type} {D : Kd α} {i e c g : Nat} {cs : List Value} {xs : List α} (H : Sep ok0 w0 w L Rs) (hi : L[i]? = some (.row (.slice (some ⟨g, 0, none⟩) xs.length c) e D.sz xs.length cs)) : CellsAt w g 0 cs := by
  have hrow := H.ents i _ hi
  have h2 : w.ownsRow 0 e D.sz (.slice (some ⟨g, 0, none⟩) xs.length c) xs.length cs := hrow
  intro j v hj
  have := h2.cells (g := g) rfl j v hj
  simpa [add_plain] using this
theorem Sep.rowPut {P : Program} {α : Type} {D : Kd α} {i j e c g off : Nat} {cs vs : List Value} {xs ys : List α} (H : Sep ok0 w0 w L Rs) (hi : L[i]? = some (.row (.slice (some ⟨g, 0, none⟩) xs.length c) e D.sz xs.length cs)) (hj : Rs[j]? = some (RE.chunks D cs xs))
    (hle : off + vs.length ≤ xs.length * D.sz) (h1 : ∀ u ∈ vs, u.oneCell' = true) (hput : Chunks D w (okS ok0 w0 L) (cs.take off ++ vs ++ cs.drop (off + vs.length)) ys) (hyl : ys.length = xs.length) :
    ∃ w', (storeCells ⟨g, off, none⟩ vs).run P w = .ok () w' ∧ Sep ok0 w0 w' (L.set i (.row (.slice (some ⟨g, 0, none⟩) ys.length c) e D.sz ys.length (cs.take off ++ vs ++ cs.drop (off + vs.length)))) (Rs.set j (RE.chunks D (cs.take off ++ vs ++ cs.drop (off + vs.length)) ys)) := by
  have hrow := H.ents i _ hi
  rcases hrow.2 with ⟨hv0, h0⟩ | ⟨g', cap, cur, hv0, hge, hh, hnc, hcm, hcs, htake⟩
  · simp at hv0
  · simp only [Value.slice.injEq, Option.some.injEq, Addr.mk.injEq, and_true, true_and] at hv0
    obtain ⟨rfl, rfl⟩ := hv0
    have hcap : xs.length * D.sz ≤ c * D.sz := Nat.mul_le_mul_right _ hnc
    have hcl : cs.length = xs.length * D.sz := hrow.1
    have hst := run_storeCells_at P g off e vs 0 cur w hh (by omega) h1
    simp only [Nat.add_zero] at hst
    refine ⟨_, hst, ?_⟩
    have hS := H.upd_ (w' := w.setRow g (cur.toList.take off ++ vs ++ cur.toList.drop (off + vs.length)).toArray) (e' := .row (.slice (some ⟨g, 0, none⟩) ys.length c) e D.sz ys.length (cs.take off ++ vs ++ cs.drop (off + vs.length))) hi rfl
      ⟨hput.len, .inr ⟨g, c, _, rfl, hge, setRow_heap w g cur _ e (0, 0) hh, by omega, hcm, by simp; omega, ?_⟩⟩ (by simp [World.setRow]) rfl rfl rfl fun k hk => setRow_other w g k _ (by simpa [Ent.blks, Value.ownBlock] using hk)
    · refine hS.setR j ?_
      refine (RE.chunks D _ _).keep (w := w) (ok := okS ok0 w0 L) hput ⟨by simp [World.setRow], fun b ob ho hb => ⟨⟨?_, hb.2⟩, setRow_other w g b _ fun he => hb.1 (mem_blks hi (by simp [Ent.blks, Value.ownBlock, he]))⟩⟩
      rw [blks_set (e := .row (.slice (some ⟨g, 0, none⟩) xs.length c) e D.sz xs.length cs) hi (by rfl)]; exact hb.1
    · rw [hyl, ← htake]
      have hcur : (cur.toList.take (xs.length * D.sz)).length = xs.length * D.sz := by simp; omega
      simp only [List.toList_toArray] at *
      rw [List.take_append, List.take_append, List.take_take, List.take_take, List.drop_take]
      simp only [List.length_append, List.length_take, Array.length_toList]
      rw [show min (xs.length * D.sz) off = off by omega, show min off (xs.length * D.sz) = off by omega,
        show min off cur.size = off by omega, List.take_of_length_le (l := vs) (by omega),
        show xs.length * D.sz - (off + vs.length) = xs.length * D.sz - (off + vs.length) from rfl]
/-- A part of a row of its own, as what is copied. -/
theorem Sep.rowSrc {α : Type} {D : Kd α} {i j e c lo : Nat} {A : Option Addr} {cs : List Value} {xs : List α} (H : Sep ok0 w0 w L Rs) (hi : L[i]? = some (.row (.slice A xs.length c) e D.sz xs.length cs)) (hj : Rs[j]? = some (RE.chunks D cs xs)) :
    SrcAt D w (okS ok0 w0 L) (slA A c lo D.sz) (xs.drop lo) := by
  obtain ⟨hc, hA⟩ := H.rowForm hi
  have hch : Chunks D w (okS ok0 w0 L) cs xs := H.rds j _ hj
  rcases hA with ⟨rfl, rfl, rfl⟩ | ⟨g, rfl⟩
  · exact .inl (by simp)
  · by_cases hl : c = lo
    · exact .inl (List.drop_eq_nil_of_le (by omega))
    · refine .inr ⟨g, lo * D.sz, cs.drop (lo * D.sz), by simp [slA, hl, add_plain], fun j v hj => ?_, hch.dropN lo⟩
      rw [List.getElem?_drop] at hj
      have := H.rowCells hi (lo * D.sz + j) v hj
      simpa using this
theorem SrcAt.takeN {α : Type} {D : Kd α} {ok : Okp} {A : Option Addr} {zs : List α} (h : SrcAt D w ok A zs) (m : Nat) : SrcAt D w ok A (zs.take m) := by
  rcases h with rfl | ⟨g, o, news, hA, hc, hch⟩
  · exact .inl (by simp)
  · refine .inr ⟨g, o, news.take (m * D.sz), hA, fun j v hj => ?_, hch.takeN m⟩
    rw [List.getElem?_take] at hj
    split at hj
    · exact hc j v hj
    · cases hj
end
section
variable {P : Program} {ops : Array Oper} {n : Nat} {r : Regs} {ok0 : Okp} {w0 w : World} {K : Regs → World → Prop} {L : List Ent} {Rs : List RE} {d : Nat} {ty : TypeId} {pos : String} {af : Array Edge} {gd : Option (Nat × Bool)}
/-- copy(v[lo:..], s), into a row of the call's own. -/
theorem O_copy {α : Type} {D : Kd α} {x y : Operand} {td ts e i j c c2 dc lo dn m : Nat} {A A2 A3 : Option Addr} {cs : List Value} {xs ys zs : List α}
    (hw : wantedR ops r ⟨some d, .call { callee := .builtin .copy, args := #[x, y], argTypes := #[td, ts] }, ty, pos, af, gd⟩ = true) (hn : Nat.blt d n = true)
    (hx : ev r x = .slice A3 dn dc) (hA3 : A3 = slA A c lo D.sz) (hy : ev r y = .slice A2 m c2) (hm : m = zs.length) (H : Sep ok0 w0 w L Rs) (hi : L[i]? = some (.row (.slice A xs.length c) e D.sz xs.length cs)) (hj : Rs[j]? = some (RE.chunks D cs xs))
    (hle : lo + dn ≤ xs.length) (hsrc : SrcAt D w (okS ok0 w0 L) A2 zs) (hu : slElem P td = some e) (hz : szOf P e = some D.sz) (hys : cpyV xs lo dn zs = ys)
    (h : ∀ w' cs', Sep ok0 w0 w' (L.set i (.row (.slice A ys.length c) e D.sz ys.length cs')) (Rs.set j (RE.chunks D cs' ys)) → K (upd r d (.int .i64 (min zs.length dn : Nat))) w') :
    OpR P ops n ⟨some d, .call { callee := .builtin .copy, args := #[x, y], argTypes := #[td, ts] }, ty, pos, af, gd⟩ r w K := by
  subst hm; subst hA3
  unfold szOf at hz
  obtain ⟨inf, hq, hsz⟩ := Option.map_eq_some_iff.1 hz
  have hu' := slElem_un hu
  obtain ⟨hc, hA⟩ := H.rowForm hi
  have hch : Chunks D w (okS ok0 w0 L) cs xs := H.rds j _ hj
  have hyl : ys.length = xs.length := by subst hys; exact length_cpyV hle
  have hlen : cs.length = xs.length * D.sz := hch.len
  by_cases hk : min zs.length dn = 0
  · -- nothing is copied
    have hxy : ys = xs := by subst hys; simp [cpyV, hk]
    have hcopy : (Builtin.copy_ #[td, ts] ty #[.slice (slA A c lo D.sz) dn dc, .slice A2 zs.length c2]).run P w = .ok (.int .i64 0) w := by
      have hmin : zs.length.min dn = 0 := hk
      have hfc : (Builtin.firstCells inf.size 0 (.slice A2 zs.length c2)).run P w = .ok #[] w := by
        cases A2 with
        | none => exact run_firstCells_none w _ _ _ _
        | some a =>
          have := run_firstCells_some (P := P) w inf.size 0 a zs.length c2 [] (by simp) (fun j v hj => by simp at hj)
          simpa using this
      cases hs : slA A c lo D.sz with
      | none => simp [Builtin.copy_, run_underlying hu', Builtin.lenOf, hmin, sizeOf, typeInfo, hq, hfc, goInt]
      | some a => simp [Builtin.copy_, run_underlying hu', Builtin.lenOf, hmin, sizeOf, typeInfo, hq, hfc, goInt, storeCells]
    refine OpR_val hw rfl hn (v := .int .i64 (min zs.length dn : Nat)) (w' := w) ?_ (h w cs ?_)
    · rw [hk]; simp [execOp, resolve, invoke, builtin, hx, hy, hcopy]
    · rw [hxy]
      have e1 : L.set i (.row (.slice A xs.length c) e D.sz xs.length cs) = L := by
        apply List.ext_getElem?
        intro k
        by_cases hik : i = k
        · subst hik
          have hlt := (List.getElem?_eq_some_iff.1 hi).1
          rw [List.getElem?_set_self hlt, hi]
        · rw [List.getElem?_set_ne hik]
      have e2 : Rs.set j (RE.chunks D cs xs) = Rs := by
        apply List.ext_getElem?
        intro k
        by_cases hjk : j = k
        · subst hjk
          have hlt := (List.getElem?_eq_some_iff.1 hj).1
          rw [List.getElem?_set_self hlt, hj]
        · rw [List.getElem?_set_ne hjk]
      rw [e1, e2]; exact H
  · have hkp : 0 < min zs.length dn := Nat.pos_of_ne_zero hk
    obtain ⟨g, rfl⟩ : ∃ g, A = some ⟨g, 0, none⟩ := by
      rcases hA with ⟨_, rfl, _⟩ | h
      · simp at hle; omega
      · exact h
    obtain ⟨g2, o2, news, rfl, hat, hcn⟩ : ∃ g o news, A2 = some ⟨g, o, none⟩ ∧ CellsAt w g o news ∧ Chunks D w (okS ok0 w0 L) news zs := by
      rcases hsrc with rfl | h
      · simp at hkp
      · exact h
    have hcl : c ≠ lo := by omega
    have hs : slA (some ⟨g, 0, none⟩) c lo D.sz = some ⟨g, lo * D.sz, none⟩ := by simp [slA, hcl, add_plain]
    have hnl : news.length = zs.length * D.sz := hcn.len
    have hkz : min zs.length dn * D.sz ≤ news.length := by rw [hnl]; exact Nat.mul_le_mul_right _ (Nat.min_le_left _ _)
    have htl : (news.take (min zs.length dn * D.sz)).length = min zs.length dn * D.sz := by rw [List.length_take]; omega
    have hfc := run_firstCells_some (P := P) w D.sz (min zs.length dn) ⟨g2, o2, none⟩ zs.length c2 (news.take (min zs.length dn * D.sz)) htl (fun j v hj => by
      rw [List.getElem?_take] at hj
      split at hj
      · rw [add_plain]; exact hat j v hj
      · cases hj)
    have hle2 : lo * D.sz + min zs.length dn * D.sz ≤ xs.length * D.sz := by
      rw [← Nat.add_mul]; exact Nat.mul_le_mul_right _ (by omega)
    have hput : Chunks D w (okS ok0 w0 L) (cs.take (lo * D.sz) ++ news.take (min zs.length dn * D.sz) ++ cs.drop (lo * D.sz + (news.take (min zs.length dn * D.sz)).length)) ys := by
      subst hys
      rw [htl, ← Nat.add_mul]
      exact ((hch.takeN lo).app (hcn.takeN _)).app (hch.dropN _)
    obtain ⟨w', hst, hS⟩ := H.rowPut (P := P) hi hj (off := lo * D.sz) (vs := news.take (min zs.length dn * D.sz)) (by rw [htl]; exact hle2) (hcn.takeN _).one hput hyl
    refine OpR_val hw rfl hn (v := .int .i64 (min zs.length dn : Nat)) (w' := w') ?_ (h _ _ hS)
    have hcopy : (Builtin.copy_ #[td, ts] ty #[.slice (some ⟨g, lo * D.sz, none⟩) dn dc, .slice (some ⟨g2, o2, none⟩) zs.length c2]).run P w = .ok (.int .i64 (min zs.length dn : Nat)) w' := by
      have hmin : zs.length.min dn = min zs.length dn := rfl
      simp [Builtin.copy_, run_underlying hu', Builtin.lenOf, hmin, sizeOf, typeInfo, hq, hsz, hfc, goInt, hst]
    rw [hs] at hx
    simp [execOp, resolve, invoke, builtin, hx, hy, hcopy]
end
section
variable {P : Program} {r : Regs} {w : World} {dst : Option Tmp} {ty : TypeId} {pos : String} {af : Array Edge} {gd : Option (Nat × Bool)}
theorem x_slice_loL {α : Type} {x i : Operand} {t e : TypeId} {sz c : Nat} {A : Option Addr} {k : IntKind} {j : Int} {xs : List α} (hu : slElem P t = some e) (hz : szOf P e = some sz) (hx : ev r x = .slice A xs.length c) (hi : ev r i = .int k j) (h0 : 0 ≤ j) (h1 : j ≤ (xs.length : Int)) :
    (execOp (ev r) ⟨dst, .slice t x (some i) none none, ty, pos, af, gd⟩).run P w = .ok (.value (.slice (slA A c j.toNat sz) (xs.drop j.toNat).length (c - j.toNat))) w := by
  rw [List.length_drop]; exact x_slice_lo hu hz hx hi h0 h1
theorem x_slice_hiL {α : Type} {x i : Operand} {t e : TypeId} {sz c : Nat} {A : Option Addr} {k : IntKind} {j : Int} {xs : List α} (hu : slElem P t = some e) (hz : szOf P e = some sz) (hx : ev r x = .slice A xs.length c) (hi : ev r i = .int k j) (h0 : 0 ≤ j) (h1 : j ≤ (xs.length : Int)) (hc : xs.length ≤ c) :
    (execOp (ev r) ⟨dst, .slice t x none (some i) none, ty, pos, af, gd⟩).run P w = .ok (.value (.slice (slA A c 0 sz) (xs.take j.toNat).length c)) w := by
  rw [List.length_take, Nat.min_eq_left (by omega)]; exact x_slice_hi hu hz hx hi h0 (by omega)
theorem drop_le {α : Type} {xs : List α} {j : Int} (h0 : 0 ≤ j) (h1 : j ≤ (xs.length : Int)) : j.toNat + (xs.drop j.toNat).length ≤ xs.length := by rw [List.length_drop]; omega
theorem take_le {α : Type} {xs : List α} {j : Int} (h0 : 0 ≤ j) (h1 : j ≤ (xs.length : Int)) : 0 + (xs.take j.toNat).length ≤ xs.length := by rw [List.length_take]; omega
end
theorem Rd.takeN {α : Type} {K : Kd α} {w : World} {ok : Okp} {A : Option Addr} {c : Nat} {xs : List α} (h : Rd K w ok A c xs) {m : Nat} : Rd K w ok (slA A c 0 K.sz) c (xs.take m) := by
  refine ⟨by rw [List.length_take]; have := h.1; omega, h.2.1, fun hne => ?_⟩
  have hne' : xs ≠ [] := by rintro rfl; simp at hne
  obtain ⟨g, o, rfl, hg, hc⟩ := h.2.2 hne'
  refine ⟨g, o, by unfold slA; split <;> simp [add_plain], hg, fun i x hi => ?_⟩
  rw [List.getElem?_take] at hi
  split at hi
  · exact hc i x hi
  · cases hi
theorem Rd.dropN {α : Type} {K : Kd α} {w : World} {ok : Okp} {A : Option Addr} {c : Nat} {xs : List α} (h : Rd K w ok A c xs) {m : Nat} : Rd K w ok (slA A c m K.sz) (c - m) (xs.drop m) := by
  refine ⟨by rw [List.length_drop]; have := h.1; omega, by have := h.2.1; omega, fun hne => ?_⟩
  have hne' : xs ≠ [] := by rintro rfl; simp at hne
  have hlen : m < xs.length := by
    rcases Nat.lt_or_ge m xs.length with h | h
    · exact h
    · exact absurd (List.drop_eq_nil_of_le h) hne
  obtain ⟨g, o, rfl, hg, hc⟩ := h.2.2 hne'
  have hcm : c ≠ m := by have := h.1; omega
  refine ⟨g, o + m * K.sz, by simp [slA, hcm, add_plain], hg, fun i x hi => ?_⟩
  rw [List.getElem?_drop] at hi
  obtain ⟨cs, hk, hat⟩ := hc (m + i) x hi
  refine ⟨cs, hk, ?_⟩
  rwa [Nat.add_mul, ← Nat.add_assoc] at hat
end Go.Proofs.YtobkigllalbkiaaV

/- From a call that leaves all older memory alone to a row's statement. Nothing here names a program. -/
set_option linter.unusedVariables false
namespace Go.Proofs.YtobkigllalbkiaaV
open Go.RowKit Go.ChangeShapes Go.WideShapes Go.ChangeAt
variable {H : Type} {enc : TypeId × Value → H} {P : Program}
theorem keptBut_of_below {W W' : World} {may : MemPlace → Prop} (h : Below W.heap.size W W') : W.keptBut W' may := by
  refine ⟨h.os, h.output, fun i hi => ?_⟩
  rw [h.block i hi]
  cases W.heap[i]? with
  | none => rfl
  | some o =>
    cases o with
    | cells c t fr => exact ⟨rfl, rfl, rfl, fun _ _ => rfl⟩
    | map es clock => exact .inr ⟨rfl, rfl⟩
    | _ => rfl
theorem frozen_of_below {W W' : World} (h : Below W.heap.size W W') {a : Addr} (ha : a.block < W.heap.size) : W'.frozen? a = W.frozen? a := by
  simp only [World.frozen?, h.block _ ha]
/-- A call that leaves all older memory alone, and the arguments' readings as they were: the row's word of it. -/
theorem post_below {f : Func} {s : ChangeSpec} {apart fresh handsOn again : Bool} {W W' : World} {args : Array Value} {v : Value} {ds gs : List (DataW H)} {before pa pv : List MemPlace}
    (hW : DataW.Whole enc P f.params.toList s.vars apart W args.toList ds gs before)
    (hres : ∀ (b : Nat) (sp : Nat → Bool) (hd : Bool), DataW.TrodAll enc P W' b sp hd f.resultTypes.toList (v.resultList f.resultTypes.size) (s.fn H (ds ++ gs)).results [])
    (hargs : ∀ sp : Nat → Bool, (∀ p ∈ before, sp p.block = true) → DataW.TrodAll enc P W' 0 sp true f.params.toList args.toList (s.fn H (ds ++ gs)).args pa)
    (hvars : ∀ sp : Nat → Bool, (∀ p ∈ before, sp p.block = true) → DataW.TrodVars enc P W' sp s.vars (s.fn H (ds ++ gs)).vars pv)
    (hps : before = pa ++ pv) (hb : Below W.heap.size W W')
    (hok : ∀ (j : Nat) (t : TypeId) (r : Value), f.resultTypes[j]? = some t → (v.resultList f.resultTypes.size)[j]? = some r → Value.okWide P W' .any 0 t r) :
    s.post enc P f apart fresh handsOn again W args v W' := by
  have hlt : ∀ p ∈ before, p.block < W.heap.size := fun p hp => hW.lt p hp
  have hall : ∀ p ∈ before, (fun b => decide (b < W.heap.size)) p.block = true := fun p hp => by simpa using hlt p hp
  have hk : W.keptBut W' (· ∈ before) := keptBut_of_below hb
  refine ⟨ds, gs, before, [], pa, pv, hW, hres _ _ _, hargs _ hall, hvars _ hall, World.keptBut_mono (fun p hp => ⟨hp, ?_⟩) hk, fun _ => ?_⟩
  · rw [hps, List.mem_append] at hp
    exact Or.inr hp
  · obtain ⟨_, _, _, _, _, hz, hn⟩ := hW
    refine ⟨hok, _, _, ([] ++ pa) ++ pv, ⟨[] ++ pa, pv, trodAll_append (hargs _ (fun _ _ => rfl)) (hres _ _ _), hvars _ (fun _ _ => rfl), rfl, ?_, ?_⟩, ?_⟩
    · intro b off hp
      have hp' : MemPlace.cell b off ∈ before := by rw [hps]; simpa using hp
      rw [frozen_of_below hb (hlt _ hp')]
      exact hz b off hp'
    · intro ha
      have := hn ha
      rw [hps] at this
      simpa using this
    · intro p hp _
      rw [hps]
      simpa using hp
end Go.Proofs.YtobkigllalbkiaaV

/- What an argument's reading says of memory: a kind for each type, from the bottom up; and the same reading behind a call that leaves all older memory alone. Nothing here names a program. -/
set_option linter.unusedVariables false
set_option linter.unusedSimpArgs false
namespace Go.Proofs.YtobkigllalbkiaaV
open Go.RowKit Go.ChangeShapes Go.WideShapes Go.ChangeAt
structure Opn (P : Program) (t : TypeId) {α : Type} (K : Kd α) : Prop where
  sz : P.cellsOf t = K.sz
  down : ∀ {H : Type} {enc : TypeId × Value → H} {w : World} {fuel : Nat} {cs : List Value} {x : DataW H × List MemPlace}, DataW.trod enc P w 0 (fun _ => true) true fuel t cs = some x → ∃ a, K.rel w okT cs a
theorem Opn.int {P : Program} {t : TypeId} {k : IntKind} {hl : ∀ x : Int, ([.int k x] : List Value).length = 1} {h1 : ∀ x : Int, ∀ v ∈ ([.int k x] : List Value), v.oneCell' = true} (ht : P.underlying t = some (.int k)) (hz : P.cellsOf t = 1) : Opn P t (Kd.flat 1 (fun x : Int => [.int k x]) hl h1) where
  sz := hz
  down := fun {H enc w fuel cs x} h => by
    cases fuel with
    | zero => simp [DataW.trod] at h
    | succ n =>
      unfold DataW.trod at h
      rw [ht] at h
      split at h <;> first | cases h | skip
      all_goals simp_all
      obtain ⟨⟨rfl, _⟩, _⟩ := h
      exact ⟨_, rfl⟩
theorem Opn.bool {P : Program} {t : TypeId} (ht : P.underlying t = some .bool) (hz : P.cellsOf t = 1) : Opn P t kBool where
  sz := hz
  down := fun {H enc w fuel cs x} h => by
    obtain ⟨b, rfl, _⟩ := DataW.trod_bool ht h
    exact ⟨b, rfl⟩
theorem list_of_all {α : Type} {n : Nat} {p : Nat → α → Prop} (h : ∀ i, i < n → ∃ a, p i a) : ∃ l : List α, l.length = n ∧ ∀ (i : Nat) (a : α), l[i]? = some a → p i a := by
  induction n with
  | zero => exact ⟨[], rfl, fun i a hi => by simp at hi⟩
  | succ n ih =>
    obtain ⟨l, hl, hp⟩ := ih fun i hi => h i (by omega)
    obtain ⟨a, ha⟩ := h n (by omega)
    refine ⟨l ++ [a], by simp [hl], fun i b hi => ?_⟩
    rcases Nat.lt_or_ge i l.length with q | q
    · rw [List.getElem?_append_left q] at hi; exact hp i b hi
    · rw [List.getElem?_append_right q] at hi
      rcases Nat.eq_zero_or_pos (i - l.length) with e | e
      · rw [e] at hi; simp at hi; subst hi
        obtain rfl : i = n := by omega
        exact ha
      · obtain ⟨m, hm⟩ : ∃ m, i - l.length = m + 1 := ⟨i - l.length - 1, by omega⟩
        rw [hm] at hi; simp at hi
theorem Opn.slice {P : Program} {t e : TypeId} {α : Type} {K : Kd α} (ht : slElem P t = some e) (hz : P.cellsOf t = 1) (he : Opn P e K) (hpos : 0 < K.sz) : Opn P t (Kd.slice K) where
  sz := hz
  down := fun {H enc w fuel cs x} h => by
    rcases DataW.trod_slice (slElem_un ht) h with ⟨rfl, _⟩ | ⟨a, len, cap, elems, rest, n, _, rfl, _, _, hl, hm, hlen, hel, _, _⟩
    · exact ⟨[], none, 0, rfl, Rd.nil (by decide)⟩
    · have hz := he.sz
      have each : ∀ i, i < len → ∃ (y : α), ∃ cs, w.cells? 0 (a.add (i * K.sz)) K.sz = some cs ∧ K.rel w okT cs y := fun i hi => by
        have h1 := hel i hi
        rw [List.getElem?_eq_getElem (by omega)] at h1
        obtain ⟨cs', c1, c2⟩ := Option.bind_eq_some_iff.1 h1
        obtain ⟨y, hy⟩ := he.down c2
        rw [hz] at c1
        exact ⟨y, cs', c1, hy⟩
      obtain ⟨xs, hx, hp⟩ := list_of_all each
      refine ⟨xs, some a, cap, by rw [hx], by rw [hx]; exact hl, by simp only [maxLen] at hm; omega, fun hne => ?_⟩
      have h0 : 0 < len := by rw [← hx]; exact List.length_pos_iff.2 hne
      have sp : a.spot = none ∧ At w okT a.block := by
        obtain ⟨y, cs', c1, _⟩ := each 0 h0
        obtain ⟨_, c2, c3⟩ := World.cells?_some c1
        have c4 := c3 0 hpos
        rw [Nat.zero_mul] at c4
        have e0 : (a.add 0).add 0 = a := by simp [Addr.add]
        rw [e0, List.getElem?_eq_getElem (by omega)] at c4
        unfold World.cell? at c4
        split at c4
        · rename_i hb
          refine ⟨?_, at_any hb⟩
          split at c4
          · cases c4
          · rename_i hs; cases hsp : a.spot with
            | none => rfl
            | some _ => rw [hsp] at hs; exact absurd rfl hs
        · cases c4
      obtain ⟨g, o, s⟩ := a
      obtain ⟨sp, hat⟩ := sp
      have sp : s = none := sp
      subst sp
      refine ⟨g, o, rfl, hat, fun i y hi => ?_⟩
      obtain ⟨cs', c1, c2⟩ := hp i y hi
      refine ⟨cs', c2, fun j v hj => ?_⟩
      obtain ⟨_, c3, c4⟩ := World.cells?_some c1
      have hlt : j < K.sz := by
        have := (List.getElem?_eq_some_iff.1 hj).1; omega
      have := c4 j hlt
      rw [add_plain, add_plain] at this
      rw [this]; exact hj
/-- A struct's field: its type, where it lies, how many cells it has. -/
def fieldAt (P : Program) (t i : Nat) : Option (TypeId × Nat × Nat) :=
  match P.underlying t with
  | some (.struct fs) => (fs[i]?).map fun f => (f.type, f.offset, P.cellsOf f.type)
  | _ => none
section
variable {H : Type} {enc : TypeId × Value → H} {P : Program} {w : World} {base : Nat} {sp : Nat → Bool} {held : Bool} {fuel : Nat} {cs : List Value} {x : DataW H × List MemPlace}
theorem trod_field {t i T off sz : Nat} (hf : fieldAt P t i = some (T, off, sz)) (h : DataW.trod enc P w base sp held fuel t cs = some x) : ∃ n y, DataW.trod enc P w base sp held n T ((cs.drop off).take sz) = some y := by
  unfold fieldAt at hf
  split at hf
  · rename_i fs hs
    obtain ⟨f, hfi, he⟩ := Option.map_eq_some_iff.1 hf
    simp only [Prod.mk.injEq] at he
    obtain ⟨rfl, rfl, rfl⟩ := he
    obtain ⟨xs, n, _, _, _, hxs, hall⟩ := DataW.trod_struct hs h
    have hlt : i < xs.length := by
      rw [hxs]
      exact (Array.getElem?_eq_some_iff.1 hfi).1
    exact ⟨n, _, (hall i f hfi).trans (List.getElem?_eq_getElem hlt)⟩
  · cases hf
def aggD (P : Program) (t : TypeId) : Bool :=
  match P.underlying t with
  | some (.struct _) | some (.array _ _) => true
  | _ => false
theorem trod_len {t n : Nat} (ha : aggD P t = true) (hn : P.cellsOf t = n) (h : DataW.trod enc P w base sp held fuel t cs = some x) : cs.length = n := by
  subst hn
  cases fuel with
  | zero => simp [DataW.trod] at h
  | succ m =>
    unfold aggD at ha
    unfold DataW.trod at h
    split at ha <;> rename_i hu
    · simp only [hu] at h
      split at h
      · assumption
      · cases h
    · simp only [hu] at h
      split at h
      · assumption
      · cases h
    · cases ha
theorem trod_part {t len e : Nat} (ha : arrOf P t = some (len, e)) {sz : Nat} (hz : P.cellsOf e = sz) (i : Nat) (hi : Nat.blt i len = true) (h : DataW.trod enc P w base sp held fuel t cs = some x) : ∃ n y, DataW.trod enc P w base sp held n e ((cs.drop (i * sz)).take sz) = some y := by
  subst hz
  have hu := arrOf_un ha
  cases fuel with
  | zero => simp [DataW.trod] at h
  | succ m =>
    unfold DataW.trod at h
    simp only [hu] at h
    split at h
    · obtain ⟨xs, hxs, _⟩ := Option.map_eq_some_iff.1 h
      have hlen := mapM_some_length hxs
      have := mapM_some_get hxs i i (by rw [List.getElem?_range (lt_of_blt hi)])
      have hlt : i < xs.length := by rw [hlen]; simpa using lt_of_blt hi
      exact ⟨m, _, this.trans (List.getElem?_eq_getElem hlt)⟩
    · cases h
end
section
variable {H : Type} {enc : TypeId × Value → H} {P : Program} {W W' : World}
/-- An argument that is a struct, or an array. -/
theorem arg_agg {t : TypeId} {α : Type} {K : Kd α} (O : Opn P t K) (ha : aggD P t = true) {r : Reach} {b0 : Nat} {v : Value} {d : DataW H} {ps : List MemPlace} (hval : Value.okWide P W r b0 t v) (h : DataW.Trod enc P W 0 (fun _ => true) true t v d ps) :
    ∃ cs a, v = .agg cs.toArray ∧ K.rel W okT cs a := by
  unfold aggD at ha
  unfold Value.okWide at hval
  have key : ∃ cs, v = .agg cs := by
    split at ha <;> rename_i hu
    · rw [hu] at hval; obtain ⟨cs, e, _⟩ := hval; exact ⟨cs, e⟩
    · rw [hu] at hval; obtain ⟨cs, e, _⟩ := hval; exact ⟨cs, e⟩
    · cases ha
  obtain ⟨cs, rfl⟩ := key
  obtain ⟨fuel, h⟩ := h
  obtain ⟨a, hk⟩ := O.down h
  exact ⟨cs.toList, a, by simp, hk⟩
theorem arg_int {t : TypeId} {k : IntKind} (ht : P.underlying t = some (.int k)) {r : Reach} {b0 : Nat} {v : Value} {d : DataW H} {ps : List MemPlace} (hval : Value.okWide P W r b0 t v) (h : DataW.Trod enc P W 0 (fun _ => true) true t v d ps) :
    ∃ a : Int, v = .int k a ∧ (Lit.int k a).wf = true := by
  obtain ⟨a, h1, _, _, h2⟩ := open_int ht hval h
  exact ⟨a, h1, h2⟩
theorem arg_slice {t e : TypeId} {α : Type} {K : Kd α} (ht : slElem P t = some e) (O : Opn P t (Kd.slice K)) {r : Reach} {b0 : Nat} {v : Value} {d : DataW H} {ps : List MemPlace} (hval : Value.okWide P W r b0 t v) (h : DataW.Trod enc P W 0 (fun _ => true) true t v d ps) :
    ∃ A c xs, v = .slice A (xs : List α).length c ∧ Rd K W okT A c xs := by
  obtain ⟨fuel, h⟩ := h
  obtain ⟨xs, A, c, hcs, hr⟩ := O.down h
  refine ⟨A, c, xs, ?_, hr⟩
  cases v with
  | agg cs =>
    exfalso
    unfold Value.okWide at hval
    rw [slElem_un ht] at hval
    simp only [Cell.okWide, slElem_un ht, Cell.ok] at hval
  | slice A' n' c' => simpa [Value.cells] using hcs
  | _ => simp [Value.cells] at hcs
theorem trodAll_stays (hl : laidOutB P = true) (hb : Below W.heap.size W W') {sp' : Nat → Bool} : ∀ {ts : List TypeId} {vs : List Value} {ds : List (DataW H)} {ps : List MemPlace}, (∀ t ∈ ts, P.readableRec t = true ∧ t < P.types.size) →
    DataW.TrodAll enc P W 0 (fun _ => true) true ts vs ds ps → (∀ p ∈ ps, p.block < W.heap.size) → (∀ p ∈ ps, sp' p.block = true) → DataW.TrodAll enc P W' 0 sp' true ts vs ds ps
  | [], vs, ds, ps, _, h, _, _ => by
    obtain ⟨rfl, rfl, rfl⟩ := trodAll_nil h
    exact rfl
  | t :: ts, vs, ds, ps, hr, h, hlt, hs => by
    obtain ⟨v, vs', d, ds', p, q, rfl, rfl, rfl, hd, hrest⟩ := trodAll_cons h
    have ht := hr t (by simp)
    refine ⟨p, q, WideElems.Trod_stays hl ht.1 ht.2 hd (fun x hx => hb.same (hlt x (by simp [hx]))) (fun x hx => hs x (by simp [hx])), ?_, rfl⟩
    exact trodAll_stays hl hb (fun u hu => hr u (by simp [hu])) hrest (fun x hx => hlt x (by simp [hx])) (fun x hx => hs x (by simp [hx]))
end
end Go.Proofs.YtobkigllalbkiaaV

/- What lay there already and what is new since then; numbers written over in what is new. Nothing here names a program. -/
set_option linter.unusedVariables false
set_option linter.unusedSimpArgs false
namespace Go.Proofs.YtobkigllalbkiaaV
open Go.RowKit
section
variable {α : Type} {K : Kd α} {ok0 : Okp} {w0 w w' : World} {L : List Ent} {Rs : List RE} {A : Option Addr} {c m : Nat} {xs : List α} {ok ok' : Okp}
/-- .. below m; from m on, and not shut; from m on alone. -/
def Okp.lt (ok : Okp) (m : Nat) : Okp := ⟨fun b ob => ok.rd b ob ∧ b < m, fun _ => False, fun _ _ h => h.elim⟩
def Okp.fr (ok : Okp) (m : Nat) : Okp := ⟨fun b ob => ok.rd b ob ∧ m ≤ b ∧ unfz ob, fun _ => False, fun _ _ h => h.elim⟩
def okN (m : Nat) : Okp := ⟨fun b ob => m ≤ b ∧ unfz ob, fun _ => False, fun _ _ h => h.elim⟩
/-- A slice that lay there when the heap had m blocks. -/
def RE.lt {α : Type} (m : Nat) (K : Kd α) (A : Option Addr) (c : Nat) (xs : List α) : RE := ⟨fun w ok => Rd K w (ok.lt m) A c xs, fun h hm => h.keep ⟨hm.size, fun b ob ho hb => ⟨⟨(hm.at_ b ob ho hb.1).1, hb.2⟩, (hm.at_ b ob ho hb.1).2⟩⟩⟩
/-- A slice of memory that has come since. -/
def RE.fr {α : Type} (m : Nat) (K : Kd α) (A : Option Addr) (c : Nat) (xs : List α) : RE := ⟨fun w ok => Rd K w (ok.fr m) A c xs, fun h hm => h.keep ⟨hm.size, fun b ob ho hb => ⟨⟨(hm.at_ b ob ho hb.1).1, hb.2⟩, (hm.at_ b ob ho hb.1).2⟩⟩⟩
theorem Rd.weak (h : Rd K w ok A c xs) (hk : ∀ b ob, w.heap[b]? = some ob → ok.rd b ob → ok'.rd b ob) : Rd K w ok' A c xs := h.keep ⟨Nat.le_refl _, fun b ob ho hb => ⟨hk b ob ho hb, rfl⟩⟩
theorem Sep.alsoLt (h : Sep ok0 w0 w L Rs) {i : Nat} (hi : Rs[i]? = some (RE.rd K A c xs)) : Sep ok0 w0 w L (Rs ++ [RE.lt w.heap.size K A c xs]) :=
  h.also ((h.rd hi).weak fun b ob ho hb => ⟨hb, lt_of_heap ho⟩)
theorem Sep.ltRd (h : Sep ok0 w0 w L Rs) {i : Nat} (hi : Rs[i]? = some (RE.lt m K A c xs)) : Rd K w (okS ok0 w0 L) A c xs :=
  Rd.weak (ok := (okS ok0 w0 L).lt m) (h.rds i _ hi) fun b ob _ hb => hb.1
theorem Sep.frRd (h : Sep ok0 w0 w L Rs) {i : Nat} (hi : Rs[i]? = some (RE.fr m K A c xs)) : Rd K w ((okS ok0 w0 L).fr m) A c xs := h.rds i _ hi
theorem Sep.alsoFr (h : Sep ok0 w0 w L Rs) (hL : ∀ b ∈ blks L, b < m) (h0 : w0.heap.size ≤ m) (hN : Rd K w (okN m) A c xs) : Sep ok0 w0 w L (Rs ++ [RE.fr m K A c xs]) :=
  h.also (hN.weak fun b ob ho hb => ⟨⟨fun hb' => absurd (hL b hb') (Nat.not_lt.2 hb.1), .inr ⟨Nat.le_trans h0 hb.1, hb.2⟩⟩, hb⟩)
end
/-! ### numbers written over -/
def Alike (v v' : Value) : Prop := v' = v ∨ ((∃ a, v = .int .i64 a) ∧ ∃ a, v' = .int .i64 a)
theorem Alike.refl (v : Value) : Alike v v := .inl rfl
/-- Numbers of the block g written over. -/
structure Rew (g : Nat) (w w' : World) : Prop where
  os : w'.os = w.os
  tape : w'.tape = w.tape
  output : w'.output = w.output
  size : w'.heap.size = w.heap.size
  other : ∀ k, k ≠ g → w'.heap[k]? = w.heap[k]?
  at_ : ∀ ob, w.heap[g]? = some ob → ∃ ob', w'.heap[g]? = some ob' ∧ (unfz ob → unfz ob')
  cell : ∀ o v, w.cell? ⟨g, o, none⟩ = some v → ∃ v', w'.cell? ⟨g, o, none⟩ = some v' ∧ Alike v v'
/-- A kind that tells no numbers of 64 bits. -/
def Okp.Stands (ok : Okp) (g : Nat) : Prop := ∀ ob ob', ok.rd g ob → (unfz ob → unfz ob') → ok.rd g ob'
structure Shp {α : Type} (K : Kd α) : Prop where
  up : ∀ {g : Nat} {w w' : World} {ok : Okp} {cs cs' : List Value} {x : α}, Rew g w w' → ok.Stands g → K.rel w ok cs x → cs'.length = cs.length → (∀ (j : Nat) (v v' : Value), cs[j]? = some v → cs'[j]? = some v' → Alike v v') → K.rel w' ok cs' x
theorem list_of_each {α : Type} {n : Nat} {p : Nat → α → Prop} (h : ∀ i, i < n → ∃ a, p i a) : ∃ l : List α, l.length = n ∧ ∀ (i : Nat) (a : α), l[i]? = some a → p i a := by
  induction n with
  | zero => exact ⟨[], rfl, fun i a hi => by simp at hi⟩
  | succ n ih =>
    obtain ⟨l, hl, hp⟩ := ih fun i hi => h i (by omega)
    obtain ⟨a, ha⟩ := h n (by omega)
    refine ⟨l ++ [a], by simp [hl], fun i b hi => ?_⟩
    rcases Nat.lt_or_ge i l.length with q | q
    · rw [List.getElem?_append_left q] at hi; exact hp i b hi
    · rw [List.getElem?_append_right q] at hi
      rcases Nat.eq_zero_or_pos (i - l.length) with e | e
      · rw [e] at hi; simp at hi; subst hi
        obtain rfl : i = n := by omega
        exact ha
      · obtain ⟨m, hm⟩ : ∃ m, i - l.length = m + 1 := ⟨i - l.length - 1, by omega⟩
        rw [hm] at hi; simp at hi
theorem Rd.shp {α : Type} {K : Kd α} (S : Shp K) {g : Nat} {w w' : World} (hr : Rew g w w') {ok : Okp} (hs : ok.Stands g) {A : Option Addr} {c : Nat} {xs : List α} (h : Rd K w ok A c xs) : Rd K w' ok A c xs := by
  refine ⟨h.1, h.2.1, fun hne => ?_⟩
  obtain ⟨g1, o, hA, hg, hx⟩ := h.2.2 hne
  refine ⟨g1, o, hA, ?_, fun i x hi => ?_⟩
  · obtain ⟨ob, h1, h2⟩ := hg
    by_cases he : g1 = g
    · subst he
      obtain ⟨ob', h3, h4⟩ := hr.at_ ob h1
      exact ⟨ob', h3, hs ob ob' h2 h4⟩
    · exact ⟨ob, (hr.other g1 he).trans h1, h2⟩
  obtain ⟨cs, hk, hc⟩ := hx i x hi
  by_cases he : g1 = g
  · subst he
    have each : ∀ j, j < cs.length → ∃ v', w'.cell? ⟨g1, o + i * K.sz + j, none⟩ = some v' ∧ ∀ v, cs[j]? = some v → Alike v v' := fun j hj => by
      obtain ⟨v', h1, h2⟩ := hr.cell _ _ (hc j _ (List.getElem?_eq_getElem hj))
      refine ⟨v', h1, fun v hv => ?_⟩
      rw [List.getElem?_eq_getElem hj] at hv
      obtain rfl := Option.some.inj hv
      exact h2
    obtain ⟨cs', hl, hp⟩ := list_of_each each
    exact ⟨cs', S.up hr hs hk hl (fun j v v' h1 h2 => (hp j v' h2).2 v h1), fun j v hv => (hp j v hv).1⟩
  · exact ⟨cs, S.up hr hs hk rfl (fun j v v' h1 h2 => by rw [h1] at h2; obtain rfl := Option.some.inj h2; exact .refl _), hc.keep (hr.other g1 he)⟩
/-- One number, whichever. -/
def kAny : Kd Unit where
  sz := 1
  rel := fun _ _ cs _ => ∃ a, cs = [.int .i64 a]
  len := by rintro w ok cs x ⟨a, rfl⟩; rfl
  one := by rintro w ok cs x ⟨a, rfl⟩ v hv; simp at hv; subst hv; rfl
  keep := fun h _ => h
theorem Alike.int {a : Int} {v : Value} (h : Alike (.int .i64 a) v) : ∃ b, v = .int .i64 b := by
  rcases h with rfl | ⟨_, h⟩
  · exact ⟨a, rfl⟩
  · exact h
theorem Alike.bool {a : Bool} {v : Value} (h : Alike (.bool a) v) : v = .bool a := by
  rcases h with rfl | ⟨⟨_, h⟩, _⟩
  · rfl
  · cases h
theorem Alike.slice {A : Option Addr} {n c : Nat} {v : Value} (h : Alike (.slice A n c) v) : v = .slice A n c := by
  rcases h with rfl | ⟨⟨_, h⟩, _⟩
  · rfl
  · cases h
theorem kAny_shp : Shp kAny where
  up := by
    rintro g w w' ok cs cs' x hr hs ⟨a, rfl⟩ hl ha
    match cs', hl with
    | [v], _ =>
      obtain ⟨b, rfl⟩ := (ha 0 _ v rfl rfl).int
      exact ⟨b, rfl⟩
theorem Rd.map {α β : Type} {K : Kd α} {K' : Kd β} {w : World} {ok : Okp} {A : Option Addr} {c : Nat} {xs : List α} (f : α → β) (hs : K'.sz = K.sz) (hf : ∀ cs x, K.rel w ok cs x → K'.rel w ok cs (f x)) (h : Rd K w ok A c xs) : Rd K' w ok A c (xs.map f) := by
  refine ⟨by rw [List.length_map]; exact h.1, h.2.1, fun hne => ?_⟩
  obtain ⟨g, o, hA, hg, hx⟩ := h.2.2 (by rintro rfl; exact hne rfl)
  refine ⟨g, o, hA, hg, fun i y hi => ?_⟩
  rw [List.getElem?_map] at hi
  obtain ⟨x, h1, rfl⟩ := Option.map_eq_some_iff.1 hi
  obtain ⟨cs, hk, hc⟩ := hx i x h1
  exact ⟨cs, hf _ _ hk, by rw [hs]; exact hc⟩
def units {α : Type} (l : List α) : List Unit := l.map fun _ => ()
theorem units_length {α : Type} (l : List α) : (units l).length = l.length := by simp [units]
/-- What is known may stand a write of numbers in what is new: of what lay there already, or of a kind that tells none. -/
structure Rob (m : Nat) (re : RE) : Prop where
  keep : ∀ {g : Nat} {w w' : World} {ok : Okp}, m ≤ g → (ok.fr m).Stands g → Rew g w w' → re.rel w ok → re.rel w' ok
theorem Rob.lt {α : Type} {K : Kd α} {A : Option Addr} {c m : Nat} {xs : List α} : Rob m (RE.lt m K A c xs) where
  keep := fun {g w w' ok} hm _ hr h => Rd.keep (ok := ok.lt m) h ⟨Nat.le_of_eq hr.size.symm, fun b ob _ hb => ⟨hb, hr.other b (by have := hb.2; omega)⟩⟩
theorem Rob.fr {α : Type} {K : Kd α} (S : Shp K) {A : Option Addr} {c m : Nat} {xs : List α} : Rob m (RE.fr m K A c xs) where
  keep := fun hm hs hr h => Rd.shp S hr hs h
def Robs (m : Nat) : List RE → Prop
  | [] => True
  | re :: Rs => Rob m re ∧ Robs m Rs
theorem Robs.get {m : Nat} : ∀ {Rs : List RE}, Robs m Rs → ∀ {i : Nat} {re : RE}, Rs[i]? = some re → Rob m re
  | [], _, i, re, h => by simp at h
  | x :: Rs, hr, 0, re, h => by simp at h; subst h; exact hr.1
  | x :: Rs, hr, i + 1, re, h => Robs.get hr.2 (by simpa using h)
section
variable {P : Program} {ops : Array Oper} {n : Nat} {r : Regs} {ok0 : Okp} {w0 w w' : World} {K : Regs → World → Prop} {L : List Ent} {Rs : List RE} {d : Nat} {ty : TypeId} {pos : String} {af : Array Edge} {gd : Option (Nat × Bool)}
theorem Sep.rew (h : Sep ok0 w0 w L Rs) {m g : Nat} (hr : Robs m Rs) (hm : m ≤ g) (h0 : w0.heap.size ≤ m) (hg : g ∉ blks L) (hw : Rew g w w') : Sep ok0 w0 w' L Rs :=
  ⟨⟨hw.os.trans h.bas.os, hw.tape.trans h.bas.tape, hw.output.trans h.bas.output, by rw [hw.size]; exact h.bas.size, fun k hk hx => (hw.other k (by omega)).trans (h.bas.block k hk hx)⟩,
    fun i e hi => Ent.keep (h.ents i e hi) fun b hb => hw.other b (by rintro rfl; exact hg (mem_blks hi hb)),
    fun b hb => by rw [hw.size]; exact h.ge b hb, h.nodup, fun i re hi => (hr.get hi).keep hm (fun ob ob' hb hu => ⟨⟨hb.1.1, .inr ⟨Nat.le_trans h0 hm, hu hb.2.2⟩⟩, hb.2.1, hu hb.2.2⟩) hw (h.rds i re hi)⟩
theorem rew_setCell {w : World} {g o : Nat} {y z : Int} (h : w.cell? ⟨g, o, none⟩ = some (.int .i64 y)) : Rew g w (w.setCell ⟨g, o, none⟩ (.int .i64 z)) := by
  unfold World.cell? at h
  cases hh : w.heap[g]? with
  | none => simp [hh] at h
  | some ob =>
    cases ob with
    | cells cs t fr =>
      simp [hh] at h
      have hlt : o < cs.size := (Array.getElem?_eq_some_iff.1 h).1
      have hgl : g < w.heap.size := lt_of_heap hh
      have hnew : (w.setCell ⟨g, o, none⟩ (.int .i64 z)).heap[g]? = some (.cells (cs.setIfInBounds o (.int .i64 z)) t fr) := by
        simp [World.setCell, Array.getElem?_modify, hh]
      refine ⟨rfl, rfl, rfl, by simp [World.setCell], fun k hk => Below.heap_setCell _ _ _ _ hk, fun ob hob => ⟨_, hnew, fun hu => by rw [hh] at hob; obtain rfl := Option.some.inj hob; exact hu⟩, fun o' v hv => ?_⟩
      unfold World.cell? at hv ⊢
      simp only [hnew]
      simp [hh] at hv
      by_cases ho : o' = o
      · subst ho
        rw [h] at hv
        obtain rfl := Option.some.inj hv
        exact ⟨.int .i64 z, by simp [hlt], .inr ⟨⟨y, rfl⟩, z, rfl⟩⟩
      · exact ⟨v, by simp [Array.getElem?_setIfInBounds_ne (Ne.symm ho), hv], .refl v⟩
    | _ => simp [hh] at h
end
section
variable {α : Type} {K : Kd α} {ok0 : Okp} {w0 w w' : World} {L : List Ent} {Rs : List RE} {A : Option Addr} {c m : Nat} {xs : List α} {ok ok' : Okp}
theorem At.weak {g : Nat} (h : At w ok g) (hk : ∀ ob, w.heap[g]? = some ob → ok.rd g ob → ok'.rd g ob) : At w ok' g := by
  obtain ⟨ob, h1, h2⟩ := h
  exact ⟨ob, h1, hk ob h1 h2⟩
theorem At.ofFr {g : Nat} (h : At w (ok.fr m) g) : At w ok g := h.weak fun ob _ hb => hb.1
theorem Sep.alsoRd (h : Sep ok0 w0 w L Rs) {i : Nat} (hi : Rs[i]? = some (RE.fr m K A c xs)) : Sep ok0 w0 w L (Rs ++ [RE.rd K A c xs]) :=
  h.also (Rd.weak (h.frRd hi) fun b ob _ hb => hb.1)
theorem Sep.alsoLtRd (h : Sep ok0 w0 w L Rs) {i : Nat} (hi : Rs[i]? = some (RE.lt m K A c xs)) : Sep ok0 w0 w L (Rs ++ [RE.rd K A c xs]) := h.also (h.ltRd hi)
theorem Sep.alsoFrMap {β : Type} {K' : Kd β} (f : α → β) (hs : K'.sz = K.sz) (hf : ∀ (w : World) (ok : Okp) (cs : List Value) (x : α), K.rel w ok cs x → K'.rel w ok cs (f x)) (h : Sep ok0 w0 w L Rs) {i : Nat} (hi : Rs[i]? = some (RE.fr m K A c xs)) :
    Sep ok0 w0 w L (Rs ++ [RE.fr m K' A c (xs.map f)]) := h.also (Rd.map f hs (fun cs x => hf _ _ cs x) (h.frRd hi))
/-- A kind that hangs on no memory. -/
def FlatK (K : Kd α) : Prop := ∀ (w w' : World) (ok ok' : Okp) (cs : List Value) (x : α), K.rel w ok cs x → K.rel w' ok' cs x
theorem flatK_int : FlatK kInt := fun _ _ _ _ _ _ h => h
theorem Chunks.flat (hF : FlatK K) {w w' : World} {ok ok' : Okp} : ∀ {cs : List Value} {xs : List α}, Chunks K w ok cs xs → Chunks K w' ok' cs xs
  | _, [], h => h
  | _, _ :: _, h => ⟨hF _ _ _ _ _ _ h.1, Chunks.flat hF h.2⟩
/-- A row of the call's own, new since the call began, becomes a slice that may be read. -/
theorem Sep.frozenF (h : Sep ok0 w0 w L Rs) (hno : ∀ k, ¬ ok0.wr k) (hF : FlatK K) {i j c t : Nat} {A : Option Addr} {cs : List Value} {xs : List α} (hi : L[i]? = some (.row (.slice A xs.length c) t K.sz xs.length cs)) (hj : Rs[j]? = some (RE.chunks K cs xs)) :
    Sep ok0 w0 w (L.set i .hole) (Rs.set j (RE.fr w0.heap.size K A c xs)) := by
  refine (h.holeL i).setRe j ?_
  have h1 := h.freeze hi (h.rds j _ hj)
  refine ⟨h1.1, h1.2.1, fun hne => ?_⟩
  obtain ⟨g, o, hA, hat, hx⟩ := h1.2.2 hne
  refine ⟨g, o, hA, ?_, fun i x hi => ?_⟩
  · have hrow := h.ents i _ hi
    have hb : g ∈ (Ent.row (.slice A xs.length c) t K.sz xs.length cs).blks := by subst hA; simp [Ent.blks, Value.ownBlock]
    rcases hrow.2 with ⟨hv, _⟩ | ⟨g', cap, cur, hv, _, hh, _⟩
    · subst hA; simp at hv
    · subst hA
      simp only [Value.slice.injEq, Option.some.injEq, Addr.mk.injEq, and_true] at hv
      obtain ⟨⟨rfl, _⟩, _⟩ := hv
      obtain ⟨ob, e1, e2⟩ := hat
      rw [hh] at e1
      obtain rfl := Option.some.inj e1
      exact ⟨_, hh, e2, (h.ge g (mem_blks hi hb)).1.resolve_right (hno g), rfl⟩
  · obtain ⟨ce, hk, hc⟩ := hx i x hi
    exact ⟨ce, hF _ _ _ _ _ _ hk, hc⟩
theorem Sep.callFr (h : Sep ok0 w0 w L Rs) (h0 : w0.heap.size ≤ m) (hm : m ≤ w.heap.size) (h2 : Sep ((okS ok0 w0 L).fr m) w w' [] [RE.rd K A c xs]) : Sep ok0 w0 w' L (Rs ++ [RE.fr m K A c xs]) := by
  refine (h.below h2.base).also ?_
  refine Rd.weak (h2.rd (i := 0) rfl) fun b ob _ hb => ?_
  rcases hb.2 with hb | hb
  · exact hb
  · exact ⟨⟨fun hb' => by have := (h.ge b hb').2; omega, .inr ⟨by omega, hb.2⟩⟩, by omega, hb.2⟩
end
section
variable {P : Program} {ops : Array Oper} {n : Nat} {r : Regs} {ok0 : Okp} {w0 w w' : World} {K : Regs → World → Prop} {L : List Ent} {Rs : List RE} {d : Nat} {ty : TypeId} {pos : String} {af : Array Edge} {gd : Option (Nat × Bool)}
/-- A number stored in what is new. -/
theorem O_storeNum {t m g o : Nat} {z y : Int} {x x' : Operand} (hw : wantedR ops r ⟨none, .store t x x', ty, pos, af, gd⟩ = true) (hx : ev r x = .pointer (some ⟨g, o, none⟩)) (hy : ev r x' = .int .i64 z) (hz : szOf P t = some 1) (hc : w.cell? ⟨g, o, none⟩ = some (.int .i64 y))
    (H : Sep ok0 w0 w L Rs) (hg : At w ((okS ok0 w0 L).fr m) g) (h0 : w0.heap.size ≤ m) (hR : Robs m Rs) (h : ∀ w', Sep ok0 w0 w' L Rs → K r w') : OpR P ops n ⟨none, .store t x x', ty, pos, af, gd⟩ r w K := by
  obtain ⟨ob, h1, h2⟩ := hg
  have hunf := h2.2.2
  obtain ⟨cs, t0, rfl⟩ : ∃ cs t0, ob = .cells cs t0 (0, 0) := by
    unfold World.cell? at hc
    simp only [h1] at hc
    cases ob with
    | cells cs t0 fr => obtain rfl : fr = (0, 0) := hunf; exact ⟨cs, t0, rfl⟩
    | _ => cases hc
  have hlt : o < cs.size := by
    unfold World.cell? at hc
    simp only [h1] at hc
    exact (Array.getElem?_eq_some_iff.1 (by simpa using hc)).1
  have hrun := run_storeVar_at (P := P) (ty := t) (off := o) (cs := cs.toList) (v := .int .i64 z) (vs := [.int .i64 z]) (by simpa using h1) rfl hz (by simp; omega) (by intro v hv; simp at hv; subst hv; rfl)
  have hw' : w.setRow g (cs.toList.take o ++ [Value.int .i64 z] ++ cs.toList.drop (o + [Value.int .i64 z].length)).toArray = w.setCell ⟨g, o, none⟩ (.int .i64 z) := by
    unfold World.setRow World.setCell
    congr 1
    apply Array.ext_getElem?
    intro k
    simp only [Array.getElem?_modify]
    split
    · rename_i hk; subst hk
      rw [h1]
      simp only [Option.map_some]
      congr 2
      simp only [Option.isSome_none]
      apply Array.toList_inj.1
      simp only [List.toList_toArray, Array.toList_setIfInBounds]
      simp
      rw [List.set_eq_take_append_cons_drop, if_pos (by simpa using hlt)]
    · rfl
  refine OpR_unit hw rfl (w' := w.setCell ⟨g, o, none⟩ (.int .i64 z)) ?_ (h _ (H.rew hR h2.2.1 h0 h2.1.1 (rew_setCell hc)))
  rw [← hw']
  simp [execOp, hx, hy, Instr.storeAt, Instr.sureAddr, hrun]
end
/-! ### kinds that tell no numbers -/
/-- Two numbers and a slice of numbers. -/
def kLevS : Kd (List Unit) where
  sz := 3
  rel := fun w ok cs us => ∃ (A : Option Addr) (c : Nat) (a b : Int), cs = [.int .i64 a, .int .i64 b, .slice A us.length c] ∧ Rd kAny w ok A c us
  len := by rintro w ok cs us ⟨A, c, a, b, rfl, h⟩; rfl
  one := by
    rintro w ok cs us ⟨A, c, a, b, rfl, h⟩ v hv
    simp at hv
    rcases hv with rfl | rfl | rfl <;> rfl
  keep := by rintro w w' ok ok' cs us ⟨A, c, a, b, rfl, h⟩ hm; exact ⟨A, c, a, b, rfl, h.keep hm⟩
theorem kLevS_shp : Shp kLevS where
  up := by
    rintro g w w' ok cs cs' us hr hs ⟨A, c, a, b, rfl, h⟩ hl ha
    match cs', hl with
    | [v0, v1, v2], _ =>
      obtain ⟨a', rfl⟩ := (ha 0 _ v0 rfl rfl).int
      obtain ⟨b', rfl⟩ := (ha 1 _ v1 rfl rfl).int
      obtain rfl := (ha 2 _ v2 rfl rfl).slice
      exact ⟨A, c, a', b', rfl, h.shp kAny_shp hr hs⟩
theorem shp_slice {α : Type} {K : Kd α} (S : Shp K) : Shp (Kd.slice K) where
  up := by
    rintro g w w' ok cs cs' xs hr hs ⟨A, c, rfl, h⟩ hl ha
    match cs', hl with
    | [v], _ =>
      obtain rfl := (ha 0 _ v rfl rfl).slice
      exact ⟨A, c, rfl, h.shp S hr hs⟩
/-- Two numbers. -/
def kTwoS : Kd Unit where
  sz := 2
  rel := fun _ _ cs _ => ∃ a b : Int, cs = [.int .i64 a, .int .i64 b]
  len := by rintro w ok cs us ⟨a, b, rfl⟩; rfl
  one := by
    rintro w ok cs us ⟨a, b, rfl⟩ v hv
    simp at hv
    rcases hv with rfl | rfl <;> rfl
  keep := fun h _ => h
theorem kTwoS_shp : Shp kTwoS where
  up := by
    rintro g w w' ok cs cs' us hr hs ⟨a, b, rfl⟩ hl ha
    match cs', hl with
    | [v0, v1], _ =>
      obtain ⟨a', rfl⟩ := (ha 0 _ v0 rfl rfl).int
      obtain ⟨b', rfl⟩ := (ha 1 _ v1 rfl rfl).int
      exact ⟨a', b', rfl⟩
/-- A number and a truth value. -/
def kNumB : Kd Unit where
  sz := 2
  rel := fun _ _ cs _ => ∃ (a : Int) (b : Bool), cs = [.int .i64 a, .bool b]
  len := by rintro w ok cs us ⟨a, b, rfl⟩; rfl
  one := by
    rintro w ok cs us ⟨a, b, rfl⟩ v hv
    simp at hv
    rcases hv with rfl | rfl <;> rfl
  keep := fun h _ => h
theorem kNumB_shp : Shp kNumB where
  up := by
    rintro g w w' ok cs cs' us hr hs ⟨a, b, rfl⟩ hl ha
    match cs', hl with
    | [v0, v1], _ =>
      obtain ⟨a', rfl⟩ := (ha 0 _ v0 rfl rfl).int
      obtain rfl := (ha 1 _ v1 rfl rfl).bool
      exact ⟨a', b, rfl⟩
end Go.Proofs.YtobkigllalbkiaaV

/- Rows of slices of the call's own: their heads. Nothing here names a program. -/
set_option linter.unusedVariables false
set_option linter.unusedSimpArgs false
namespace Go.Proofs.YtobkigllalbkiaaV
open Go.RowKit
section
variable {ok0 : Okp} {w0 w w' : World} {L : List Ent} {Rs : List RE}
/-- A head in a row of slices: where the slice lies. -/
theorem Sep.rowHead {α : Type} {D : Kd α} {j : Nat} {cs : List Value} {xs : List (List α)} (H : Sep ok0 w0 w L Rs) (hj : Rs[j]? = some (RE.chunks (Kd.slice D) cs xs)) {m : Int} {x : List α} (hx : xs[m.toNat]? = some x) :
    ∃ A' c', cs[m.toNat]? = some (.slice A' x.length c') ∧ Rd D w (okS ok0 w0 L) A' c' x := by
  have hch : Chunks (Kd.slice D) w (okS ok0 w0 L) cs xs := H.rds j _ hj
  obtain ⟨A', c', he, hr⟩ := hch.at_ _ x hx
  refine ⟨A', c', ?_, hr⟩
  have h1 : ((cs.drop (m.toNat * 1)).take 1)[0]? = some (.slice A' x.length c') := by
    have he' : (cs.drop (m.toNat * 1)).take 1 = [.slice A' x.length c'] := he
    rw [he']; rfl
  rw [List.getElem?_take, if_pos (by omega), List.getElem?_drop, Nat.mul_one, Nat.add_zero] at h1
  exact h1
theorem Sep.rowHeadAt {n i e c g : Nat} {A : Option Addr} {cs : List Value} {v : Value} (H : Sep ok0 w0 w L Rs) (hi : L[i]? = some (.row (.slice A n c) e 1 n cs)) (hA : A = some ⟨g, 0, none⟩) {m : Int} (hv : cs[m.toNat]? = some v) : CellsAt w g (0 + m.toNat * 1) [v] := by
  subst hA
  have h2 : w.ownsRow 0 e 1 (.slice (some ⟨g, 0, none⟩) n c) n cs := H.ents i _ hi
  intro j u hj
  match j, hj with
  | 0, hj =>
    simp at hj; subst hj
    have := h2.cells (g := g) rfl m.toNat v hv
    simpa [add_plain] using this
end
/-! ### functions handed on -/
/-- The first place at which a test says so; the test hands on a state. -/
def anyS {α σ : Type} (p : σ → α → Option (Bool × σ)) : σ → Int → List α → Option (Int × σ)
  | st, _, [] => some (-1, st)
  | st, i, x :: xs => (p st x).bind fun q => bif q.1 then some (i, q.2) else anyS p q.2 (i + 1) xs
theorem x_makeFuncF {P : Program} {r : Regs} {w : World} {dst : Option Tmp} {ty : TypeId} {pos : String} {af : Array Edge} {gd : Option (Nat × Bool)} {f : Fn} {fs xs : List Operand} {us vs : List Value} (hu : fs.map (ev r) = us) (hv : xs.map (ev r) = vs) :
    (execOp (ev r) ⟨dst, .makeFunc f fs.toArray xs.toArray, ty, pos, af, gd⟩).run P w = .ok (.value (.func f us.toArray vs.toArray)) w := by
  subst hu; subst hv
  simp [execOp, Instr.makeFunc]
end Go.Proofs.YtobkigllalbkiaaV
