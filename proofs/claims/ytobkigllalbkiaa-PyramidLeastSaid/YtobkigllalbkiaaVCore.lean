/- A small logic over the model's wp: frames as functions, regions as lists of operations, loops by fuel. Nothing here names a program. -/
import Derived.Tactics
import Derived.OrdersHeld
import Derived.Deep.LoopGhost
import Derived.KernelRfl
set_option linter.unusedVariables false
set_option linter.unusedSimpArgs false
namespace Go.Proofs.YtobkigllalbkiaaV

theorem lt_of_blt {a b : Nat} (h : Nat.blt a b = true) : a < b := by rw [Nat.blt_eq] at h; exact h
abbrev Regs := Nat → Value
def upd (r : Regs) (d : Nat) (v : Value) : Regs := fun i => bif Nat.beq i d then v else r i
def updL : List (Nat × Value) → Regs → Regs
  | [], r => r
  | p :: l, r => upd (updL l r) p.1 p.2
theorem upd_same (r : Regs) (d : Nat) (v : Value) : upd r d v d = v := by simp [upd]
theorem upd_ne (r : Regs) {d i : Nat} (v : Value) (h : i ≠ d) : upd r d v i = r i := by
  have : Nat.beq i d = false := by
    cases hb : Nat.beq i d
    · rfl
    · exact absurd (Nat.eq_of_beq_eq_true hb) h
  simp [upd, this]
/-- The frame's slots say so. -/
def Agr : List (Nat × Value) → Regs → Prop
  | [], _ => True
  | p :: l, r => r p.1 = p.2 ∧ Agr l r
theorem upd_self {r : Regs} {d : Nat} {v : Value} (h : r d = v) : upd r d v = r := by
  funext i
  by_cases hi : i = d
  · subst hi; rw [upd_same, h]
  · rw [upd_ne _ _ hi]
theorem updL_self : ∀ {l : List (Nat × Value)} {r : Regs}, Agr l r → updL l r = r
  | [], _, _ => rfl
  | p :: l, r, h => by simp only [updL]; rw [updL_self h.2]; exact upd_self h.1
theorem regen {r : Regs} (l : List (Nat × Value)) (h : Agr l r) : ∃ r1, r = updL l r1 := ⟨r, (updL_self h).symm⟩

def ev (r : Regs) : Operand → Value
  | .tmp t => r t
  | .const v => v
  | .global g => .pointer (some ⟨g, 0, none⟩)
  | .func f => .func (.func f) #[] #[]

structure Fr (n : Nat) (r : Regs) (a : Act) : Prop where
  size : a.tmps.size = n
  defers : a.defers = []
  get : ∀ i, a.tmps.getD i undef = r i

section
variable {n : Nat} {r : Regs} {a : Act}
theorem Fr.eval (h : Fr n r a) : a.eval = ev r := by
  funext x
  cases x with
  | tmp t => exact h.get t
  | const v => rfl
  | global g => rfl
  | func f => rfl
theorem Fr.put (h : Fr n r a) {d : Nat} (hd : d < n) (v : Value) : Fr n (upd r d v) (a.put (some d) v) := by
  refine ⟨by simp [Act.put, h.size], h.defers, fun i => ?_⟩
  by_cases hi : i = d
  · subst hi
    rw [upd_same]
    have : i < a.tmps.size := by rw [h.size]; exact hd
    simp [Act.put, this]
  · rw [upd_ne _ _ hi, ← h.get i]
    simp [Act.put, Array.getElem?_setIfInBounds_ne (Ne.symm hi)]
theorem Fr.put_none (h : Fr n r a) (v : Value) : Fr n r (a.put none v) := h
end

abbrev Post := Exit → Regs → World → Prop
def lift (n : Nat) (Q : Post) : Exit → Act → World → Prop
  | .panic _, _, _ => False
  | .outgrown, _, _ => False
  | e, a, w => ∃ r, Fr n r a ∧ Q e r w
def W (P : Program) (n : Nat) (c : Code) (Q : Post) (r : Regs) (w : World) : Prop := ∀ a, Fr n r a → c.wp P (lift n Q) a w

def thenP (K : Regs → World → Prop) (Q : Post) : Post
  | .normal, r, w => K r w
  | e, r, w => Q e r w
def blockP (id : Nat) (Q : Post) : Post
  | .exit id', r, w => bif Nat.beq id' id then Q .normal r w else Q (.exit id') r w
  | e, r, w => Q e r w

section
variable {P : Program} {n : Nat} {Q : Post} {r : Regs} {w : World}
theorem W_mono {c : Code} {Q' : Post} (h : W P n c Q r w) (hq : ∀ e r w, Q e r w → Q' e r w) : W P n c Q' r w :=
  fun a ha => wp_mono (h a ha) fun e a w q => by
    cases e <;> first | exact q.elim | (obtain ⟨r, hr, hq'⟩ := q; exact ⟨r, hr, hq _ _ _ hq'⟩)
theorem W_seq {x y : Code} (h : W P n x (thenP (W P n y Q) Q) r w) : W P n (.seq x y) Q r w :=
  fun a ha => wp_seq (wp_mono (h a ha) fun e a w q => by
    cases e with
    | normal => obtain ⟨r, hr, hq⟩ := q; exact hq a hr
    | panic c => exact q.elim
    | outgrown => exact q.elim
    | exit id => exact q
    | goto l => exact q
    | ret => exact q)
theorem W_skip (h : Q .normal r w) : W P n .skip Q r w := fun a ha => wp_skip ⟨r, ha, h⟩
theorem W_ret (h : Q .ret r w) : W P n .ret Q r w := fun a ha => wp_ret ⟨r, ha, h⟩
theorem W_exit {id : Nat} (h : Q (.exit id) r w) : W P n (.exit id) Q r w := fun a ha => wp_exit ⟨r, ha, h⟩
theorem W_cond {c : Operand} {x y : Code} {t : Bool} (hc : ev r c = .bool t) (ht : t = true → W P n x Q r w) (hf : t = false → W P n y Q r w) : W P n (.cond c x y) Q r w :=
  fun a ha => wp_cond_split (t := t) (by rw [ha.eval]; exact hc) (fun h => ht h a ha) (fun h => hf h a ha)
theorem W_block {id : Nat} {c : Code} (h : W P n c (blockP id Q) r w) : W P n (.block id c) Q r w :=
  fun a ha => wp_block (wp_mono (h a ha) fun e a w q => by
    cases e with
    | exit id' =>
      obtain ⟨r, hr, hq⟩ := q
      simp only [blockP] at hq
      simp only [Exit.inBlock]
      split
      · rename_i h; subst h; rw [Nat.beq_refl] at hq; exact ⟨r, hr, hq⟩
      · rename_i h
        have : Nat.beq id' id = false := by
          cases hb : Nat.beq id' id
          · rfl
          · exact absurd (Nat.eq_of_beq_eq_true hb) h
        rw [this] at hq; exact ⟨r, hr, hq⟩
    | normal => exact q
    | panic c => exact q.elim
    | outgrown => exact q.elim
    | goto l => exact q
    | ret => exact q)
/-- Where ways meet again. -/
theorem W_join {x y : Code} (J : Regs → World → Prop) (h1 : W P n x (thenP J Q) r w) (h2 : ∀ r w, J r w → W P n y Q r w) : W P n (.seq x y) Q r w :=
  W_seq (W_mono h1 fun e r w q => by
    cases e with
    | normal => exact h2 r w q
    | _ => exact q)
/-- A loop, by fuel: each round has less of it. -/
theorem W_loop {c : Code} (I : Nat → Regs → World → Prop) (k : Nat) (h0 : I k r w)
    (round : ∀ k r w, I k r w → W P n c (thenP (fun r' w' => ∃ k', k' < k ∧ I k' r' w') Q) r w) : W P n (.loop c) Q r w :=
  fun a ha => wp_loop_ghost (fun k a w => ∃ r, Fr n r a ∧ I k r w) k ⟨r, ha, h0⟩ fun k a w ⟨r, hr, hI⟩ =>
    wp_mono (round k r w hI a hr) fun e a w q => by
      cases e with
      | normal => obtain ⟨r, hr, k', hk, hI'⟩ := q; exact ⟨k', hk, r, hr, hI'⟩
      | panic c => exact q.elim
      | outgrown => exact q.elim
      | exit id => exact q
      | goto l => exact q
      | ret => exact q
end

section
variable {P : Program} {n : Nat} {Q : Post} {r : Regs} {w : World}
/-- A loop that is gone through round by round. -/
def WU (P : Program) (n : Nat) (c : Code) (Q : Post) : Nat → Regs → World → Prop
  | 0, _, _ => False
  | k + 1, r, w => W P n c (thenP (WU P n c Q k) Q) r w
theorem WU_succ {c : Code} {k : Nat} (h : W P n c (thenP (WU P n c Q k) Q) r w) : WU P n c Q (k + 1) r w := h
theorem W_unroll (k : Nat) {c : Code} (h : WU P n c Q k r w) : W P n (.loop c) Q r w :=
  W_loop (fun k r w => WU P n c Q k r w) k h fun k r w h => by
    cases k with
    | zero => exact h.elim
    | succ k =>
      refine W_mono (show W P n c (thenP (WU P n c Q k) Q) r w from h) (fun e r w q => ?_)
      cases e with
      | normal => exact ⟨k, Nat.lt_succ_self k, q⟩
      | _ => exact q
end

/-! ### operations -/
def yieldR (ops : Array Oper) (r : Regs) (j : Nat) : Option Bool :=
  match (ops[j]?).bind (·.dst) with
  | some d => match r d with
    | .bool b => some b
    | _ => none
  | none => none
def wantedR (ops : Array Oper) (r : Regs) (o : Oper) : Bool :=
  match o.guard with
  | none => true
  | some (j, want) => yieldR ops r j == some want
section
variable {n : Nat} {r : Regs} {a : Act}
theorem Fr.wanted (h : Fr n r a) (ops : Array Oper) (o : Oper) : Region.wanted o (yielded ops a.tmps) = wantedR ops r o := by
  unfold Region.wanted wantedR
  cases o.guard with
  | none => rfl
  | some p =>
    obtain ⟨j, want⟩ := p
    have : yielded ops a.tmps j = yieldR ops r j := by
      unfold yielded yieldR
      cases (ops[j]?).bind (·.dst) with
      | none => rfl
      | some d =>
        have hg := h.get d
        simp only [Option.bind_some]
        cases ht : a.tmps[d]? with
        | none =>
          have : r d = undef := by rw [← hg]; simp [Array.getD_eq_getD_getElem?, ht]
          rw [this]; rfl
        | some v =>
          have : r d = v := by rw [← hg]; simp [Array.getD_eq_getD_getElem?, ht]
          rw [this]
          cases v <;> rfl
    simp only [this]
end

/-- One operation of a region: what follows it holds. -/
def OpR (P : Program) (ops : Array Oper) (n : Nat) (o : Oper) (r : Regs) (w : World) (K : Regs → World → Prop) : Prop :=
  ∀ (Q : Exit → Act → World → Prop) (K' : Act → World → Prop) (a : Act), Fr n r a → (∀ a' r' w', Fr n r' a' → K r' w' → K' a' w') →
    if wantedR ops r o then o.wp P a w K' Q else K' (a.put o.dst undef) w
def RL (P : Program) (ops : Array Oper) (n : Nat) : List Oper → (Regs → World → Prop) → Regs → World → Prop
  | [], M, r, w => M r w
  | o :: rest, M, r, w => OpR P ops n o r w (RL P ops n rest M)

section
variable {P : Program} {ops : Array Oper} {n : Nat} {o : Oper} {r : Regs} {w : World} {K : Regs → World → Prop}
theorem OpR_mono {K' : Regs → World → Prop} (h : OpR P ops n o r w K) (hk : ∀ r w, K r w → K' r w) : OpR P ops n o r w K' :=
  fun Q KA a ha hK => h Q KA a ha fun a' r' w' hr hk' => hK a' r' w' hr (hk _ _ hk')
theorem OpR_val {d : Nat} {v : Value} {w' : World} (hw : wantedR ops r o = true) (hd : o.dst = some d) (hn : Nat.blt d n = true)
    (hrun : (execOp (ev r) o).run P w = .ok (.value v) w') (h : K (upd r d v) w') : OpR P ops n o r w K := by
  intro Q K' a ha hK
  rw [if_pos hw]
  unfold Oper.wp
  rw [ha.eval, hrun]
  simp only [Oper.upon, hd]
  exact hK _ _ _ (ha.put (lt_of_blt hn) v) h
theorem OpR_val0 {v : Value} {w' : World} (hw : wantedR ops r o = true) (hd : o.dst = none)
    (hrun : (execOp (ev r) o).run P w = .ok (.value v) w') (h : K r w') : OpR P ops n o r w K := by
  intro Q K' a ha hK
  rw [if_pos hw]
  unfold Oper.wp
  rw [ha.eval, hrun]
  simp only [Oper.upon, hd]
  exact hK _ _ _ ha h
theorem OpR_unit {w' : World} (hw : wantedR ops r o = true) (hd : o.dst = none)
    (hrun : (execOp (ev r) o).run P w = .ok .skip w') (h : K r w') : OpR P ops n o r w K := by
  intro Q K' a ha hK
  rw [if_pos hw]
  unfold Oper.wp
  rw [ha.eval, hrun]
  simp only [Oper.upon, hd]
  exact hK _ _ _ ha h
theorem OpR_call {d : Nat} {f : FuncId} {args : Array Value} {R : Ending → World → Prop} (hw : wantedR ops r o = true) (hd : o.dst = some d) (hn : Nat.blt d n = true)
    (hrun : (execOp (ev r) o).run P w = .ok (.enter f args) w) (hc : Calls P f args w R) (h : ∀ e w', R e w' → ∃ v, e = .returned v ∧ K (upd r d v) w') : OpR P ops n o r w K := by
  intro Q K' a ha hK
  rw [if_pos hw]
  unfold Oper.wp
  rw [ha.eval, hrun]
  simp only [Oper.upon]
  refine hc.mono fun e w' hR => ?_
  obtain ⟨v, rfl, hk⟩ := h e w' hR
  simp only [hd]
  exact hK _ _ _ (ha.put (lt_of_blt hn) v) hk
theorem OpR_call0 {f : FuncId} {args : Array Value} {R : Ending → World → Prop} (hw : wantedR ops r o = true) (hd : o.dst = none)
    (hrun : (execOp (ev r) o).run P w = .ok (.enter f args) w) (hc : Calls P f args w R) (h : ∀ e w', R e w' → ∃ v, e = .returned v ∧ K r w') : OpR P ops n o r w K := by
  intro Q K' a ha hK
  rw [if_pos hw]
  unfold Oper.wp
  rw [ha.eval, hrun]
  simp only [Oper.upon]
  refine hc.mono fun e w' hR => ?_
  obtain ⟨v, rfl, hk⟩ := h e w' hR
  simp only [hd]
  exact hK _ _ _ ha hk
theorem OpR_off {d : Nat} (hw : wantedR ops r o = false) (hd : o.dst = some d) (hn : Nat.blt d n = true) (h : K (upd r d undef) w) : OpR P ops n o r w K := by
  intro Q K' a ha hK
  rw [if_neg (by rw [hw]; simp)]
  rw [hd]
  exact hK _ _ _ (ha.put (lt_of_blt hn) undef) h
theorem wn0 (h : o.guard = none) : wantedR ops r o = true := by simp [wantedR, h]
theorem wn1 {j d : Nat} {want b : Bool} (h : o.guard = some (j, want)) (hj : (ops[j]?).bind (·.dst) = some d) (hb : r d = .bool b) (e : b = want) : wantedR ops r o = true := by
  subst e; simp [wantedR, h, yieldR, hj, hb]
theorem wn2 {j d : Nat} {want b : Bool} (h : o.guard = some (j, want)) (hj : (ops[j]?).bind (·.dst) = some d) (hb : r d = .bool b) (e : b = !want) : wantedR ops r o = false := by
  subst e; cases want <;> simp [wantedR, h, yieldR, hj, hb]
/-- The guard's own operation was left out. -/
theorem wn3 {j d : Nat} {want : Bool} (h : o.guard = some (j, want)) (hj : (ops[j]?).bind (·.dst) = some d) (hb : r d = undef) : wantedR ops r o = false := by
  simp only [wantedR, h, yieldR, hj, hb]; rfl
end

section
variable {P : Program} {ops : Array Oper} {n : Nat} {r : Regs} {w : World} {M : Regs → World → Prop}
theorem RL_nil (h : M r w) : RL P ops n [] M r w := h
theorem RL_cons {o : Oper} {rest : List Oper} (h : OpR P ops n o r w (RL P ops n rest M)) : RL P ops n (o :: rest) M r w := h
theorem RL_mono {M' : Regs → World → Prop} (hm : ∀ r w, M r w → M' r w) : ∀ (l : List Oper) (r : Regs) (w : World), RL P ops n l M r w → RL P ops n l M' r w
  | [], _, _, h => hm _ _ h
  | _ :: l, _, _, h => OpR_mono h fun r w => RL_mono hm l r w
theorem RL_app : ∀ (l1 l2 : List Oper) (r : Regs) (w : World), RL P ops n l1 (RL P ops n l2 M) r w → RL P ops n (l1 ++ l2) M r w
  | [], _, _, _, h => h
  | _ :: l1, l2, _, _, h => OpR_mono h fun r w => RL_app l1 l2 r w
/-- The first k operations apart. -/
theorem RL_cut (k : Nat) {l : List Oper} (M1 : Regs → World → Prop) (h : RL P ops n (l.take k) M1 r w) (h2 : ∀ r w, M1 r w → RL P ops n (l.drop k) M r w) : RL P ops n l M r w := by
  have := RL_app (M := M) (l.take k) (l.drop k) r w (RL_mono h2 _ _ _ h)
  rwa [List.take_append_drop] at this
theorem wpList_of_RL {Q : Exit → Act → World → Prop} (hQ : ∀ a r w, Fr n r a → M r w → Q .normal a w) : ∀ (l : List Oper) (r : Regs) (w : World) (a : Act), Fr n r a → RL P ops n l M r w → wpList P ops Q l a w
  | [], _, _, a, ha, h => hQ a _ _ ha h
  | o :: l, r, w, a, ha, h => by
    have := h Q (wpList P ops Q l) a ha (fun a' r' w' hr hk => wpList_of_RL hQ l r' w' a' hr hk)
    unfold wpList
    rw [ha.wanted ops o]
    split
    · rename_i hw; rw [if_pos hw] at this; exact .inl this
    · rename_i hw; rw [if_neg hw] at this; exact this
theorem W_region {id : Nat} {l : List Oper} {Q : Post} (h : RL P l.toArray n l (fun r w => Q .normal r w) r w) : W P n (.region id l.toArray false) Q r w :=
  fun a ha => wp_region_lit (wpList_of_RL (fun a' r' w' hr hk => ⟨r', hr, hk⟩) l r w a ha h)
end

/-! ### regions that draw their order -/
inductive Mv where
  | take (i : Nat)
  | free (i : Nat)
  | run (i : Nat)
  | tail (i : Nat)
def Mv.noTake : Mv → Bool
  | .take _ => false
  | _ => true
def inL (T : List Nat) (i : Nat) : Bool := T.any fun j => Nat.beq j i
/-- Every operation of the tail waits for every one that is neither of the tail nor free. -/
def tailOK (ops : Array Oper) (T F : List Nat) : Bool :=
  (List.range ops.size).all fun j => !inL T j || match ops[j]? with
    | some o => (List.range ops.size).all fun i => inL T i || inL F i || o.after.any fun e => Region.binds .any e && Nat.beq e.on i
    | none => true
def planOK (ops : Array Oper) (T F : List Nat) : List Mv → Array Bool → Bool
  | [], listed => (Region.ready .any ops listed).isEmpty
  | .take i :: p, listed => !inL T i && !inL F i && Region.free .any ops listed i && (Region.ready .any ops listed).contains i && planOK ops T F p (listed.setIfInBounds i true)
  | .free i :: p, listed => Region.free .any ops listed i && (Region.ready .any ops listed).contains i && planOK ops T F p (listed.setIfInBounds i true)
  | .run i :: p, listed => !inL T i && (Region.ready .any ops listed == [i]) && planOK ops T F p (listed.setIfInBounds i true)
  | .tail i :: p, listed => (Region.ready .any ops listed == [i]) && inL T i && p.all Mv.noTake && planOK ops T F p (listed.setIfInBounds i true)
def PR (P : Program) (ops : Array Oper) (n : Nat) (S : World → Prop) : List Mv → (Regs → World → Prop) → Regs → World → Prop
  | [], M, r, w => M r w
  | .take i :: p, M, r, w => ∃ o d v, ops[i]? = some o ∧ o.dst = some d ∧ Nat.blt d n = true ∧
      ((wantedR ops r o = true ∧ ∀ w', S w' → (execOp (ev r) o).run P w' = .ok (.value v) w') ∨ (wantedR ops r o = false ∧ v = undef)) ∧ PR P ops n S p M (upd r d v) w
  | .free i :: p, M, r, w => ∃ o d v, ops[i]? = some o ∧ o.dst = some d ∧ Nat.blt d n = true ∧
      ((wantedR ops r o = true ∧ ∀ w' : World, True → (execOp (ev r) o).run P w' = .ok (.value v) w') ∨ (wantedR ops r o = false ∧ v = undef)) ∧ PR P ops n S p M (upd r d v) w
  | .run i :: p, M, r, w => ∃ o, ops[i]? = some o ∧ OpR P ops n o r w fun r' w' => S w' ∧ PR P ops n S p M r' w'
  | .tail i :: p, M, r, w => ∃ o, ops[i]? = some o ∧ OpR P ops n o r w fun r' w' => PR P ops n S p M r' w'

section
variable {P : Program} {ops : Array Oper} {Q : Exit → Act → World → Prop} {md : Region.Mode} {S : World → Prop} {T F : List Nat}
/-- Whatever order is picked from here on, AND every operation that is not of the tail keeps 'S'. -/
def wpAnyT (P : Program) (md : Region.Mode) (ops : Array Oper) (Q : Exit → Act → World → Prop) (S : World → Prop) (T : List Nat) : Nat → Array Bool → Act → World → Prop
  | 0, listed, a, w => Region.ready md ops listed = [] ∧ Q .normal a w
  | fuel + 1, listed, a, w =>
    (Region.ready md ops listed = [] → Q .normal a w) ∧
    ∀ i ∈ Region.ready md ops listed, wpOp P ops Q i (fun a' w' => (inL T i = false → S w → S w') ∧ wpAnyT P md ops Q S T fuel (listed.setIfInBounds i true) a' w') a w
theorem wpAny_of_T : ∀ (fuel : Nat) (listed : Array Bool) (a : Act) (w : World), wpAnyT P md ops Q S T fuel listed a w → wpAny P md ops Q fuel listed a w
  | 0, _, _, _, h => h
  | fuel + 1, _, _, _, h => ⟨h.1, fun i hi => wpOp_mono (fun a' w' h' => wpAny_of_T fuel _ a' w' h'.2) (h.2 i hi)⟩
theorem tail_waits (ht : tailOK ops T F = true) {i j : Nat} {listed : Array Bool} (hi : i < ops.size) (hiT : inL T i = false) (hiF : inL F i = false) (hj : j ∈ Region.ready .any ops listed) (hT : inL T j = true) : listed.getD i false = true := by
  obtain ⟨h0, o, ho, hall⟩ := mem_ready.1 hj
  simp only [tailOK, List.all_eq_true, List.mem_range, Bool.or_eq_true] at ht
  rcases ht j (Array.getElem?_eq_some_iff.1 ho).1 with h | h
  · rw [hT] at h; cases h
  · simp only [ho, List.all_eq_true, List.mem_range, Bool.or_eq_true] at h
    rcases h i hi with h | h
    · rw [hiT, hiF] at h; rcases h with h | h <;> cases h
    · obtain ⟨e, he, hb⟩ := Array.any_eq_true'.1 h
      simp only [Bool.and_eq_true] at hb
      have := hall e he hb.1
      rwa [Nat.eq_of_beq_eq_true hb.2] at this
theorem wpAnyT_first (ht : tailOK ops T F = true) {i : Nat} {oi : Oper} {v : Value} (hiT : inL T i = false) (hiF : inL F i = false) (hi : ops[i]? = some oi) (hsel : ∀ (j : Nat) (o : Oper) cs b, ops[j]? = some o → o.op ≠ .select cs b)
    (hQ : ∀ c a w, Q (.panic c) (a.put oi.dst v) w → Q (.panic c) a w) :
    ∀ (fuel : Nat) (listed : Array Bool) (a : Act) (w : World),
      (∀ j oj, ops[j]? = some oj → j ≠ i → listed.getD j true = false → (∀ e ∈ oj.after, Region.binds .any e = true → e.on ≠ i) → oi.apart ops oj = true) →
      i ∈ Region.ready .any ops listed → YieldsIf P ops S oi v a → S w →
      wpAnyT P .any ops Q S T fuel (listed.setIfInBounds i true) (a.put oi.dst v) w → wpAnyT P .any ops Q S T (fuel + 1) listed a w := by
  intro fuel
  induction fuel with
  | zero =>
    intro listed a w _ hr hy hS H
    refine ⟨fun h => (by rw [h] at hr; cases hr), fun j hj => ?_⟩
    by_cases hji : j = i
    · subst hji; exact hy.wpOp hi hS ⟨fun _ h => h, H⟩
    · have := ready_mono hj hji
      rw [H.1] at this
      cases this
  | succ fuel ih =>
    intro listed a w hfree hr hy hS H
    refine ⟨fun h => (by rw [h] at hr; cases hr), fun j hj => ?_⟩
    by_cases hji : j = i
    · subst hji; exact hy.wpOp hi hS ⟨fun _ h => h, H⟩
    · have h1 := H.2 j (ready_mono hj hji)
      obtain ⟨hjun, oj, hoj, hall⟩ := mem_ready.1 hj
      have hnot : ∀ e ∈ oj.after, Region.binds .any e = true → e.on ≠ i := fun e he hb heq => by
        have h1 := hall e he hb
        have h0 := (mem_ready.1 hr).1
        rw [heq] at h1
        rcases Nat.lt_or_ge i listed.size with h' | h'
        · simp [h'] at h0 h1; rw [h0] at h1; cases h1
        · simp [Array.getElem?_eq_none h'] at h1
      have h2 := wpOp_putIf hoj (hfree j oj hoj hji hjun hnot) (fun cs b => hsel i oi cs b hi) (fun cs b => hsel j oj cs b hoj) hQ hy h1
      have hfree' : ∀ k ok, ops[k]? = some ok → k ≠ i → (listed.setIfInBounds j true).getD k true = false →
          (∀ e ∈ ok.after, Region.binds .any e = true → e.on ≠ i) → oi.apart ops ok = true := fun k ok hk hki hun hno => by
        refine hfree k ok hk hki ?_ hno
        by_cases hjk : j = k
        · subst hjk; exact hjun
        · rw [getD_set_ne true hjk] at hun; exact hun
      refine wpOp_mono (fun a' w' h3 => ?_) h2
      have hjT : inL T j = false := by
        cases h' : inL T j
        · rfl
        · have := tail_waits ht (Array.getElem?_eq_some_iff.1 hi).1 hiT hiF hj h'
          have h0 := (mem_ready.1 hr).1
          rcases Nat.lt_or_ge i listed.size with h' | h'
          · simp [h'] at h0 this; rw [h0] at this; cases this
          · simp [Array.getElem?_eq_none h'] at this
      have hS' := h3.2.1 hjT hS
      refine ⟨fun _ _ => hS', ih (listed.setIfInBounds j true) a' w' hfree' (ready_mono hr (Ne.symm hji)) h3.1 hS' ?_⟩
      rw [Array.setIfInBounds_comm _ _ hji]
      exact h3.2.2
/-- .. and one that looks at no memory. -/
theorem wpAnyT_free {i : Nat} {oi : Oper} {v : Value} (hi : ops[i]? = some oi) (hsel : ∀ (j : Nat) (o : Oper) cs b, ops[j]? = some o → o.op ≠ .select cs b)
    (hQ : ∀ c a w, Q (.panic c) (a.put oi.dst v) w → Q (.panic c) a w) :
    ∀ (fuel : Nat) (listed : Array Bool) (a : Act) (w : World),
      (∀ j oj, ops[j]? = some oj → j ≠ i → listed.getD j true = false → (∀ e ∈ oj.after, Region.binds .any e = true → e.on ≠ i) → oi.apart ops oj = true) →
      i ∈ Region.ready .any ops listed → YieldsIf P ops (fun _ => True) oi v a →
      wpAnyT P .any ops Q S T fuel (listed.setIfInBounds i true) (a.put oi.dst v) w → wpAnyT P .any ops Q S T (fuel + 1) listed a w := by
  intro fuel
  induction fuel with
  | zero =>
    intro listed a w _ hr hy H
    refine ⟨fun h => (by rw [h] at hr; cases hr), fun j hj => ?_⟩
    by_cases hji : j = i
    · subst hji; exact hy.wpOp hi trivial ⟨fun _ h => h, H⟩
    · have := ready_mono hj hji
      rw [H.1] at this
      cases this
  | succ fuel ih =>
    intro listed a w hfree hr hy H
    refine ⟨fun h => (by rw [h] at hr; cases hr), fun j hj => ?_⟩
    by_cases hji : j = i
    · subst hji; exact hy.wpOp hi trivial ⟨fun _ h => h, H⟩
    · have h1 := H.2 j (ready_mono hj hji)
      obtain ⟨hjun, oj, hoj, hall⟩ := mem_ready.1 hj
      have hnot : ∀ e ∈ oj.after, Region.binds .any e = true → e.on ≠ i := fun e he hb heq => by
        have h1 := hall e he hb
        have h0 := (mem_ready.1 hr).1
        rw [heq] at h1
        rcases Nat.lt_or_ge i listed.size with h' | h'
        · simp [h'] at h0 h1; rw [h0] at h1; cases h1
        · simp [Array.getElem?_eq_none h'] at h1
      have h2 := wpOp_putIf hoj (hfree j oj hoj hji hjun hnot) (fun cs b => hsel i oi cs b hi) (fun cs b => hsel j oj cs b hoj) hQ hy h1
      have hfree' : ∀ k ok, ops[k]? = some ok → k ≠ i → (listed.setIfInBounds j true).getD k true = false →
          (∀ e ∈ ok.after, Region.binds .any e = true → e.on ≠ i) → oi.apart ops ok = true := fun k ok hk hki hun hno => by
        refine hfree k ok hk hki ?_ hno
        by_cases hjk : j = k
        · subst hjk; exact hjun
        · rw [getD_set_ne true hjk] at hun; exact hun
      refine wpOp_mono (fun a' w' h3 => ?_) h2
      refine ⟨h3.2.1, ih (listed.setIfInBounds j true) a' w' hfree' (ready_mono hr (Ne.symm hji)) h3.1 ?_⟩
      rw [Array.setIfInBounds_comm _ _ hji]
      exact h3.2.2
end
section
variable {P : Program} {ops : Array Oper} {n : Nat} {S : World → Prop} {T F : List Nat}
theorem inL_not {T : List Nat} {i : Nat} (h : (!inL T i) = true) : inL T i = false := by simpa using h
theorem wpAnyT_of_PR {Q : Exit → Act → World → Prop} {M : Regs → World → Prop} (hsel : Region.noSelect ops = true) (ht : tailOK ops T F = true)
    (hp : ∀ c a w, ¬ Q (.panic c) a w) (hM : ∀ a r w, Fr n r a → M r w → Q .normal a w) :
    ∀ (p : List Mv) (listed : Array Bool) (r : Regs) (w : World) (a : Act), Fr n r a → planOK ops T F p listed = true → (S w ∨ ∀ i, Mv.take i ∉ p) → PR P ops n S p M r w →
      ∀ fuel, p.length ≤ fuel → wpAnyT P .any ops Q S T fuel listed a w
  | [], listed, r, w, a, ha, hok, _, h, fuel, _ => by
    have hr : Region.ready .any ops listed = [] := by simpa [planOK] using hok
    cases fuel with
    | zero => exact ⟨hr, hM a r w ha h⟩
    | succ fuel => exact ⟨fun _ => hM a r w ha h, by rw [hr]; simp⟩
  | .take i :: p, listed, r, w, a, ha, hok, hS, h, fuel, hf => by
    obtain ⟨o, d, v, ho, hd, hn, hy, hrest⟩ := h
    simp only [planOK, Bool.and_eq_true] at hok
    obtain ⟨⟨⟨⟨hT, hF⟩, hfree⟩, hready⟩, hok⟩ := hok
    have hSw : S w := hS.resolve_right fun h => h i (by simp)
    obtain ⟨fuel, rfl⟩ : ∃ m, fuel = m + 1 := ⟨fuel - 1, by simp at hf; omega⟩
    refine wpAnyT_first ht (inL_not hT) (inL_not hF) ho (Region.noSelect_spec hsel) (fun c a w h => absurd h (hp c _ w)) fuel listed a w (Region.free_spec ho hfree) (by simpa using hready) ?_ hSw ?_ (v := v)
    · unfold YieldsIf
      rw [ha.wanted ops o, ha.eval]
      exact hy
    · rw [hd]
      exact wpAnyT_of_PR hsel ht hp hM p _ _ w _ (ha.put (lt_of_blt hn) v) hok (.inl hSw) hrest fuel (by simp at hf; omega)
  | .free i :: p, listed, r, w, a, ha, hok, hS, h, fuel, hf => by
    obtain ⟨o, d, v, ho, hd, hn, hy, hrest⟩ := h
    simp only [planOK, Bool.and_eq_true] at hok
    obtain ⟨⟨hfree, hready⟩, hok⟩ := hok
    obtain ⟨fuel, rfl⟩ : ∃ m, fuel = m + 1 := ⟨fuel - 1, by simp at hf; omega⟩
    refine wpAnyT_free ho (Region.noSelect_spec hsel) (fun c a w h => absurd h (hp c _ w)) fuel listed a w (Region.free_spec ho hfree) (by simpa using hready) ?_ ?_ (v := v)
    · unfold YieldsIf
      rw [ha.wanted ops o, ha.eval]
      exact hy
    · rw [hd]
      exact wpAnyT_of_PR hsel ht hp hM p _ _ w _ (ha.put (lt_of_blt hn) v) hok (hS.imp id fun h i hi => h i (by simp [hi])) hrest fuel (by simp at hf; omega)
  | .run i :: p, listed, r, w, a, ha, hok, hS, h, fuel, hf => by
    obtain ⟨o, ho, hop⟩ := h
    simp only [planOK, Bool.and_eq_true, beq_iff_eq] at hok
    obtain ⟨⟨hT, hready⟩, hok⟩ := hok
    obtain ⟨fuel, rfl⟩ : ∃ m, fuel = m + 1 := ⟨fuel - 1, by simp at hf; omega⟩
    refine ⟨fun h => (by rw [h] at hready; cases hready), fun j hj => ?_⟩
    rw [hready] at hj
    obtain rfl : j = i := by simpa using hj
    unfold wpOp
    simp only [ho]
    have := hop Q (fun a' w' => (inL T j = false → S w → S w') ∧ wpAnyT P .any ops Q S T fuel (listed.setIfInBounds j true) a' w') a ha fun a' r' w' hr hk =>
      ⟨fun _ _ => hk.1, wpAnyT_of_PR hsel ht hp hM p _ r' w' a' hr hok (.inl hk.1) hk.2 fuel (by simp at hf; omega)⟩
    rw [ha.wanted ops o]
    split
    · rename_i hw; rw [if_pos hw] at this; exact .inl this
    · rename_i hw; rw [if_neg hw] at this; exact this
  | .tail i :: p, listed, r, w, a, ha, hok, hS, h, fuel, hf => by
    obtain ⟨o, ho, hop⟩ := h
    simp only [planOK, Bool.and_eq_true, beq_iff_eq] at hok
    obtain ⟨⟨⟨hready, hT⟩, hnt⟩, hok⟩ := hok
    obtain ⟨fuel, rfl⟩ : ∃ m, fuel = m + 1 := ⟨fuel - 1, by simp at hf; omega⟩
    refine ⟨fun h => (by rw [h] at hready; cases hready), fun j hj => ?_⟩
    rw [hready] at hj
    obtain rfl : j = i := by simpa using hj
    unfold wpOp
    simp only [ho]
    have := hop Q (fun a' w' => (inL T j = false → S w → S w') ∧ wpAnyT P .any ops Q S T fuel (listed.setIfInBounds j true) a' w') a ha fun a' r' w' hr hk =>
      ⟨fun h => (by rw [hT] at h; cases h), wpAnyT_of_PR hsel ht hp hM p _ r' w' a' hr hok (.inr fun i' hi' => ?_) hk fuel (by simp at hf; omega)⟩
    · rw [ha.wanted ops o]
      split
      · rename_i hw; rw [if_pos hw] at this; exact .inl this
      · rename_i hw; rw [if_neg hw] at this; exact this
    · have := List.all_eq_true.1 hnt _ hi'
      cases this
theorem W_draw {id : Nat} {Q : Post} {r : Regs} {w : World} {l : List Oper} (p : List Mv) (S : World → Prop) (T F : List Nat) (hm : P.follows .mixedOrders = true)
    (hsel : Region.noSelect l.toArray = true) (ht : tailOK l.toArray T F = true) (hok : planOK l.toArray T F p (Array.replicate l.toArray.size false) = true) (hlen : Nat.ble p.length l.toArray.size = true)
    (hS : S { w with drawn := w.drawn + 1 }) (h : PR P l.toArray n S p (fun r w => Q .normal r w) r { w with drawn := w.drawn + 1 }) : W P n (.region id l.toArray true) Q r w :=
  fun a ha => wp_region_any hm (wpAny_of_T _ _ _ _ (wpAnyT_of_PR (Q := lift n Q) hsel ht (fun _ _ _ h => h) (fun a' r' w' hr hk => ⟨r', hr, hk⟩) p _ r _ a ha hok (.inl hS) h _ (Nat.le_of_ble_eq_true hlen)))
end

/-! ### .. in more than one order -/
inductive PT where
  | lin (p : List Mv)
  | take (i : Nat) (t : PT)
  | free (i : Nat) (t : PT)
  | all (u : PT)
  | br (i : Nat) (t u : PT)
  | stop
def PT.heads : PT → List Nat
  | .br i _ u => i :: u.heads
  | _ => []
def PT.isMain : PT → Bool
  | .lin _ => true
  | .take _ _ => true
  | .free _ _ => true
  | .all _ => true
  | _ => false
def PT.depth : PT → Nat
  | .lin p => p.length
  | .take _ t => t.depth + 1
  | .free _ t => t.depth + 1
  | .all u => u.depth
  | .br _ t u => max (t.depth + 1) u.depth
  | .stop => 0
def treeOK (ops : Array Oper) (T F : List Nat) : PT → Array Bool → Bool
  | .lin p, listed => planOK ops T F p listed
  | .take i t, listed => !inL T i && !inL F i && Region.free .any ops listed i && (Region.ready .any ops listed).contains i && (t.isMain && treeOK ops T F t (listed.setIfInBounds i true))
  | .free i t, listed => Region.free .any ops listed i && (Region.ready .any ops listed).contains i && (t.isMain && treeOK ops T F t (listed.setIfInBounds i true))
  | .all u, listed => ((Region.ready .any ops listed).all fun i => u.heads.contains i) && !(Region.ready .any ops listed).isEmpty && treeOK ops T F u listed
  | .br i t u, listed => !inL T i && (t.isMain && treeOK ops T F t (listed.setIfInBounds i true)) && treeOK ops T F u listed
  | .stop, _ => true
def PRT (P : Program) (ops : Array Oper) (n : Nat) (S : World → Prop) : PT → (Regs → World → Prop) → Regs → World → Prop
  | .lin p, M, r, w => PR P ops n S p M r w
  | .take i t, M, r, w => ∃ o d v, ops[i]? = some o ∧ o.dst = some d ∧ Nat.blt d n = true ∧
      ((wantedR ops r o = true ∧ ∀ w', S w' → (execOp (ev r) o).run P w' = .ok (.value v) w') ∨ (wantedR ops r o = false ∧ v = undef)) ∧ PRT P ops n S t M (upd r d v) w
  | .free i t, M, r, w => ∃ o d v, ops[i]? = some o ∧ o.dst = some d ∧ Nat.blt d n = true ∧
      ((wantedR ops r o = true ∧ ∀ w' : World, True → (execOp (ev r) o).run P w' = .ok (.value v) w') ∨ (wantedR ops r o = false ∧ v = undef)) ∧ PRT P ops n S t M (upd r d v) w
  | .all u, M, r, w => PRT P ops n S u M r w
  | .br i t u, M, r, w => (∃ o, ops[i]? = some o ∧ OpR P ops n o r w fun r' w' => S w' ∧ PRT P ops n S t M r' w') ∧ PRT P ops n S u M r w
  | .stop, _, _, _ => True
section
variable {P : Program} {ops : Array Oper} {n : Nat} {S : World → Prop} {T F : List Nat}
theorem wpAnyT_of_PRT {Q : Exit → Act → World → Prop} {M : Regs → World → Prop} (hsel : Region.noSelect ops = true) (ht : tailOK ops T F = true)
    (hp : ∀ c a w, ¬ Q (.panic c) a w) (hM : ∀ a r w, Fr n r a → M r w → Q .normal a w) :
    ∀ (t : PT), (t.isMain = true → ∀ (listed : Array Bool) (r : Regs) (w : World) (a : Act), Fr n r a → treeOK ops T F t listed = true → S w → PRT P ops n S t M r w →
      ∀ fuel, t.depth ≤ fuel → wpAnyT P .any ops Q S T fuel listed a w) ∧
      (∀ (listed : Array Bool) (r : Regs) (w : World) (a : Act), Fr n r a → treeOK ops T F t listed = true → PRT P ops n S t M r w →
        ∀ fuel, t.depth ≤ fuel + 1 → ∀ j ∈ t.heads, wpOp P ops Q j (fun a' w' => (inL T j = false → S w → S w') ∧ wpAnyT P .any ops Q S T fuel (listed.setIfInBounds j true) a' w') a w) := by
  intro t
  induction t with
  | lin p =>
    refine ⟨fun _ listed r w a ha hok hS h fuel hf => wpAnyT_of_PR hsel ht hp hM p listed r w a ha hok (.inl hS) h fuel hf, ?_⟩
    intro listed r w a ha hok h fuel hf j hj; cases hj
  | stop =>
    refine ⟨fun h => (by cases h), ?_⟩
    intro listed r w a ha hok h fuel hf j hj; cases hj
  | take i t ih =>
    refine ⟨fun _ listed r w a ha hok hS h fuel hf => ?_, ?_⟩
    · obtain ⟨o, d, v, ho, hd, hn, hy, hrest⟩ := h
      simp only [treeOK, Bool.and_eq_true] at hok
      obtain ⟨⟨⟨⟨hT, hF⟩, hfree⟩, hready⟩, hmain, hok⟩ := hok
      simp only [PT.depth] at hf
      obtain ⟨fuel, rfl⟩ : ∃ m, fuel = m + 1 := ⟨fuel - 1, by omega⟩
      refine wpAnyT_first ht (inL_not hT) (inL_not hF) ho (Region.noSelect_spec hsel) (fun c a w h => absurd h (hp c _ w)) fuel listed a w (Region.free_spec ho hfree) (by simpa using hready) ?_ hS ?_ (v := v)
      · unfold YieldsIf
        rw [ha.wanted ops o, ha.eval]
        exact hy
      · rw [hd]
        exact ih.1 hmain _ _ w _ (ha.put (lt_of_blt hn) v) hok hS hrest fuel (by omega)
    · intro listed r w a ha hok h fuel hf j hj; cases hj
  | free i t ih =>
    refine ⟨fun _ listed r w a ha hok hS h fuel hf => ?_, ?_⟩
    · obtain ⟨o, d, v, ho, hd, hn, hy, hrest⟩ := h
      simp only [treeOK, Bool.and_eq_true] at hok
      obtain ⟨⟨hfree, hready⟩, hmain, hok⟩ := hok
      simp only [PT.depth] at hf
      obtain ⟨fuel, rfl⟩ : ∃ m, fuel = m + 1 := ⟨fuel - 1, by omega⟩
      refine wpAnyT_free ho (Region.noSelect_spec hsel) (fun c a w h => absurd h (hp c _ w)) fuel listed a w (Region.free_spec ho hfree) (by simpa using hready) ?_ ?_ (v := v)
      · unfold YieldsIf
        rw [ha.wanted ops o, ha.eval]
        exact hy
      · rw [hd]
        exact ih.1 hmain _ _ w _ (ha.put (lt_of_blt hn) v) hok hS hrest fuel (by omega)
    · intro listed r w a ha hok h fuel hf j hj; cases hj
  | all u ih =>
    refine ⟨fun _ listed r w a ha hok hS h fuel hf => ?_, ?_⟩
    · simp only [treeOK, Bool.and_eq_true] at hok
      obtain ⟨⟨hall, hne⟩, hok⟩ := hok
      simp only [PT.depth] at hf
      have hne' : Region.ready .any ops listed ≠ [] := by
        intro h0; rw [h0] at hne; cases hne
      have hin : ∀ j ∈ Region.ready .any ops listed, j ∈ u.heads := fun j hj => by
        have := List.all_eq_true.1 hall j hj
        simpa using this
      have hd : 0 < u.depth := by
        cases hr : Region.ready .any ops listed with
        | nil => exact absurd hr hne'
        | cons j l =>
          have hj := hin j (by rw [hr]; simp)
          cases u with
          | br i t u => simp only [PT.depth]; omega
          | lin p => cases hj
          | take i t => cases hj
          | free i t => cases hj
          | all u => cases hj
          | stop => cases hj
      obtain ⟨fuel, rfl⟩ : ∃ m, fuel = m + 1 := ⟨fuel - 1, by omega⟩
      exact ⟨fun h0 => absurd h0 hne', fun j hj => ih.2 listed r w a ha hok h fuel hf j (hin j hj)⟩
    · intro listed r w a ha hok h fuel hf j hj; cases hj
  | br i t u iht ihu =>
    refine ⟨fun h => (by cases h), ?_⟩
    intro listed r w a ha hok h fuel hf j hj
    simp only [treeOK, Bool.and_eq_true] at hok
    obtain ⟨⟨hN, hmain, hok1⟩, hok2⟩ := hok
    obtain ⟨⟨o, ho, hop⟩, hu⟩ := h
    simp only [PT.depth] at hf
    rcases List.mem_cons.1 hj with rfl | hj
    · unfold wpOp
      simp only [ho]
      have := hop Q (fun a' w' => (inL T j = false → S w → S w') ∧ wpAnyT P .any ops Q S T fuel (listed.setIfInBounds j true) a' w') a ha fun a' r' w' hr hk =>
        ⟨fun _ _ => hk.1, iht.1 hmain _ r' w' a' hr hok1 hk.1 hk.2 fuel (by omega)⟩
      rw [ha.wanted ops o]
      split
      · rename_i hw; rw [if_pos hw] at this; exact .inl this
      · rename_i hw; rw [if_neg hw] at this; exact this
    · exact ihu.2 listed r w a ha hok2 hu fuel (by omega) j hj
theorem W_drawT {id : Nat} {Q : Post} {r : Regs} {w : World} {l : List Oper} (t : PT) (S : World → Prop) (T F : List Nat) (hm : P.follows .mixedOrders = true)
    (hsel : Region.noSelect l.toArray = true) (ht : tailOK l.toArray T F = true) (hok : (t.isMain && treeOK l.toArray T F t (Array.replicate l.toArray.size false)) = true) (hlen : Nat.ble t.depth l.toArray.size = true)
    (hS : S { w with drawn := w.drawn + 1 }) (h : PRT P l.toArray n S t (fun r w => Q .normal r w) r { w with drawn := w.drawn + 1 }) : W P n (.region id l.toArray true) Q r w :=
  fun a ha => by
    have hok' := Bool.and_eq_true_iff.1 hok
    exact wp_region_any hm (wpAny_of_T _ _ _ _ ((wpAnyT_of_PRT (Q := lift n Q) hsel ht (fun _ _ _ h => h) (fun a' r' w' hr hk => ⟨r', hr, hk⟩) t).1 hok'.1 _ r _ a ha hok'.2 hS h _ (Nat.le_of_ble_eq_true hlen)))
/-- A meeting of orders: what is shown of it first is used in all of them. -/
theorem PRT_meet {M : Regs → World → Prop} {r : Regs} {w : World} {p : PT} (J : Regs → World → Prop) (q : PT) (h1 : (∀ r w, J r w → PRT P ops n S q M r w) → PRT P ops n S p M r w) (h2 : ∀ r w, J r w → PRT P ops n S q M r w) : PRT P ops n S p M r w := h1 h2
theorem PRT_take {M : Regs → World → Prop} {r : Regs} {w : World} {t : PT} {i d : Nat} {o : Oper} {v : Value} (ho : ops[i]? = some o) (hd : o.dst = some d) (hn : Nat.blt d n = true) (hw : wantedR ops r o = true) (hrun : ∀ w', S w' → (execOp (ev r) o).run P w' = .ok (.value v) w')
    (h : PRT P ops n S t M (upd r d v) w) : PRT P ops n S (.take i t) M r w := ⟨o, d, v, ho, hd, hn, .inl ⟨hw, hrun⟩, h⟩
theorem PRT_free {M : Regs → World → Prop} {r : Regs} {w : World} {t : PT} {i d : Nat} {o : Oper} {v : Value} (ho : ops[i]? = some o) (hd : o.dst = some d) (hn : Nat.blt d n = true) (hw : wantedR ops r o = true) (hrun : ∀ w', (execOp (ev r) o).run P w' = .ok (.value v) w')
    (h : PRT P ops n S t M (upd r d v) w) : PRT P ops n S (.free i t) M r w := ⟨o, d, v, ho, hd, hn, .inl ⟨hw, fun w' _ => hrun w'⟩, h⟩
theorem PRT_br {M : Regs → World → Prop} {r : Regs} {w : World} {t u : PT} {i : Nat} {o : Oper} (ho : ops[i]? = some o) (h : OpR P ops n o r w fun r' w' => S w' ∧ PRT P ops n S t M r' w') (hu : PRT P ops n S u M r w) : PRT P ops n S (.br i t u) M r w := ⟨⟨o, ho, h⟩, hu⟩
theorem PRT_all {M : Regs → World → Prop} {r : Regs} {w : World} {u : PT} (h : PRT P ops n S u M r w) : PRT P ops n S (.all u) M r w := h
theorem PRT_stop {M : Regs → World → Prop} {r : Regs} {w : World} : PRT P ops n S .stop M r w := trivial
theorem PRT_lin {M : Regs → World → Prop} {r : Regs} {w : World} {p : List Mv} (h : PR P ops n S p M r w) : PRT P ops n S (.lin p) M r w := h
end
end Go.Proofs.YtobkigllalbkiaaV
