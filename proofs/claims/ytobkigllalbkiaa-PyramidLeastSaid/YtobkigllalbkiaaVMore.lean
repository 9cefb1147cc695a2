/- More rules of operations: structs, arrays, slices made and cut, comparisons of structs. Nothing here names a program. -/
import Derived.Test.YtobkigllalbkiaaVFn
import Derived.Great.BuildSlice
import Derived.Laws.Slices
import Derived.Laws.StructEq
set_option linter.unusedVariables false
set_option linter.unusedSimpArgs false
namespace Go.Proofs.YtobkigllalbkiaaV
open Go.RowKit

section
variable {P : Program} {r : Regs} {w : World} {dst : Option Tmp} {ty : TypeId} {pos : String} {af : Array Edge} {gd : Option (Nat × Bool)}
/-- A call of a function, its arguments a list. -/
theorem x_callL {f : Operand} {fid : FuncId} {first cap : Array Value} {xs : List Operand} {ts : Array TypeId} {args : List Value} (hf : ev r f = .func (.func fid) first cap) (ha : first.toList ++ xs.map (ev r) ++ cap.toList = args)
    (hc : (callFunc fid args.toArray).run P w = .ok (.enter fid args.toArray) w) :
    (execOp (ev r) ⟨dst, .call { callee := .value f, args := xs.toArray, argTypes := ts }, ty, pos, af, gd⟩).run P w = .ok (.enter fid args.toArray) w :=
  x_call hf (by subst ha; simp) hc
theorem x_makeFunc {f : Fn} {xs : List Operand} {vs : List Value} (hv : xs.map (ev r) = vs) :
    (execOp (ev r) ⟨dst, .makeFunc f #[] xs.toArray, ty, pos, af, gd⟩).run P w = .ok (.value (.func f #[] vs.toArray)) w := by
  subst hv
  simp [execOp, Instr.makeFunc]
theorem x_build {t : TypeId} {ps : List (Nat × Operand)} {vs : List (Nat × Value)} {cs : List Value} (hv : ps.map (fun p => (p.1, ev r p.2)) = vs) (hb : P.built t vs = some cs.toArray) :
    (execOp (ev r) ⟨dst, .build t ps.toArray, ty, pos, af, gd⟩).run P w = .ok (.value (.agg cs.toArray)) w := by
  subst hv
  have := run_build w t ((ps.map fun p => (p.1, ev r p.2)).toArray) cs.toArray hb
  simp only [execOp, Sem.run_bind]
  rw [show (ps.toArray.map fun (x : Nat × Operand) => match x with | (i, x) => (i, ev r x)) = (ps.map fun p => (p.1, ev r p.2)).toArray by simp, this]
  rfl
/-- An array's length and what it is of. -/
def arrOf (P : Program) (t : TypeId) : Option (Nat × TypeId) :=
  match P.underlying t with
  | some (.array n e) => some (n, e)
  | _ => none
theorem arrOf_un {t e : TypeId} {n : Nat} (h : arrOf P t = some (n, e)) : P.underlying t = some (.array n e) := by
  unfold arrOf at h
  split at h
  · rename_i n' e' he; simp at h; obtain ⟨rfl, rfl⟩ := h; exact he
  · cases h
theorem x_indexArr {x i : Operand} {t e : TypeId} {k : IntKind} {j : Int} {len sz g o : Nat} (hu : arrOf P t = some (len, e)) (hz : szOf P e = some sz) (hx : ev r x = .pointer (some ⟨g, o, none⟩)) (hi : ev r i = .int k j)
    (h0 : 0 ≤ j) (h1 : j < (len : Int)) : (execOp (ev r) ⟨dst, .indexAddr t x i, ty, pos, af, gd⟩).run P w = .ok (.value (.pointer (some ⟨g, o + j.toNat * sz, none⟩))) w := by
  unfold szOf at hz
  obtain ⟨inf, hq, hsz⟩ := Option.map_eq_some_iff.1 hz
  simp [execOp, hx, hi, Instr.indexAt, asIntOf, run_underlying (arrOf_un hu), Instr.sureAddr, h0, h1, sizeOf, typeInfo, hq, hsz, add_plain]
/-- An array's part, of a value. -/
theorem x_index {x i : Operand} {t e : TypeId} {k : IntKind} {j : Int} {len : Nat} {cs : List Value} {v : Value} (hu : arrOf P t = some (len, e)) (hz : szOf P e = some 1) (hs : scal P e = true) (hx : ev r x = .agg cs.toArray) (hi : ev r i = .int k j)
    (h0 : 0 ≤ j) (h1 : j < (len : Int)) (hv : cs[j.toNat]? = some v) : (execOp (ev r) ⟨dst, .index t x i, ty, pos, af, gd⟩).run P w = .ok (.value v) w := by
  unfold szOf at hz
  obtain ⟨inf, hq, hsz⟩ := Option.map_eq_some_iff.1 hz
  have hagg : (isAgg e).run P w = .ok false w := by
    unfold scal at hs
    cases hd : P.underlying e with
    | none => simp [hd] at hs
    | some d => cases d <;> simp [hd] at hs <;> simp [isAgg, run_underlying hd]
  simp [execOp, hx, hi, Instr.index, asIntOf, run_underlying (arrOf_un hu), h0, h1, sizeOf, typeInfo, hq, hsz, part, hagg, hv]
def fieldVal (P : Program) (s f : Nat) : Option Nat :=
  match P.underlying s with
  | some (.struct fs) => match fs[f]? with
    | some fl => if scal P fl.type then some fl.offset else none
    | none => none
  | _ => none
theorem run_isAgg_of_scal {e : TypeId} (hs : scal P e = true) : (isAgg e).run P w = .ok false w := by
  unfold scal at hs
  cases hd : P.underlying e with
  | none => simp [hd] at hs
  | some d => cases d <;> simp [hd] at hs <;> simp [isAgg, run_underlying hd]
theorem x_field {x : Operand} {t f off : Nat} {cs : List Value} {v : Value} (hf : fieldVal P t f = some off) (hx : ev r x = .agg cs.toArray) (hv : cs[off]? = some v) :
    (execOp (ev r) ⟨dst, .field t x f, ty, pos, af, gd⟩).run P w = .ok (.value v) w := by
  unfold fieldVal at hf
  split at hf
  · rename_i fs hs
    split at hf
    · rename_i fl hfl
      split at hf
      · rename_i hsc
        simp at hf; subst hf
        simp [execOp, hx, Instr.field, run_underlying hs, hfl, asAgg, part, run_isAgg_of_scal hsc, hv]
      · cases hf
    · cases hf
  · cases hf
/-! ### structs compared -/
def cellEq : TypeDesc → Value → Value → Option Bool
  | .int _, .int k a, .int k' b => if k = k' then some (a == b) else none
  | .bool, .bool a, .bool b => some (a == b)
  | _, _, _ => none
def eqL : List (TypeDesc × Nat) → List Value → List Value → Option Bool
  | [], _, _ => some true
  | [p], xs, ys => (xs[p.2]?).bind fun x => (ys[p.2]?).bind fun y => cellEq p.1 x y
  | p :: q :: l, xs, ys => (xs[p.2]?).bind fun x => (ys[p.2]?).bind fun y => (cellEq p.1 x y).bind fun b => (eqL (q :: l) xs ys).map (b && ·)
def scalDesc : Option TypeDesc → Option TypeDesc
  | some (.int k) => some (.int k)
  | some .bool => some .bool
  | _ => none
def planS (P : Program) (fs : List Field) : Option (List (TypeDesc × Nat)) :=
  fs.mapM fun f => if f.name = "_" then none else (scalDesc (P.underlying f.type)).map fun d => (d, f.offset)
def structOf (P : Program) (t : TypeId) : Option (List (TypeDesc × Nat)) :=
  match P.underlying t with
  | some (.struct fs) => if P.stoodInHeld t then none else planS P fs.toList
  | _ => none
theorem scalDesc_some {d e : TypeDesc} {o : Option TypeDesc} (h : scalDesc o = some d) : o = some d ∧ ((∃ k, d = .int k) ∨ d = .bool) := by
  cases o with
  | none => cases h
  | some x => cases x <;> simp [scalDesc] at h <;> subst h <;> simp
theorem scalDesc_some' {d : TypeDesc} {o : Option TypeDesc} (h : scalDesc o = some d) : o = some d ∧ ((∃ k, d = .int k) ∨ d = .bool) := by
  cases o with
  | none => cases h
  | some x => cases x <;> simp [scalDesc] at h <;> subst h <;> simp
theorem run_equalIn_cell {d : TypeDesc} {t : TypeId} {n : Nat} {x y : Value} {b : Bool} (hd : scalDesc (P.underlying t) = some d) (h : cellEq d x y = some b) : (Op.equalIn (n + 1) t x y).run P w = .ok b w := by
  obtain ⟨hu, hk⟩ := scalDesc_some' hd
  rcases hk with ⟨k, rfl⟩ | rfl
  · cases x <;> cases y <;> simp only [cellEq] at h <;> first | cases h | skip
    rename_i k1 a k2 b'
    split at h
    · rename_i hkk; subst hkk; cases h; simp [Op.equalIn, run_underlying hu]
    · cases h
  · cases x <;> cases y <;> simp only [cellEq] at h <;> first | cases h | skip
    simp [Op.equalIn, run_underlying hu]
theorem run_isAgg_scal {t : TypeId} {d : TypeDesc} (hd : scalDesc (P.underlying t) = some d) : (isAgg t).run P w = .ok false w := by
  obtain ⟨hu, hk⟩ := scalDesc_some' hd
  rcases hk with ⟨k, rfl⟩ | rfl <;> simp [isAgg, run_underlying hu]
theorem run_part_scal {t : TypeId} {d : TypeDesc} {xs : List Value} {o : Nat} {x : Value} (hd : scalDesc (P.underlying t) = some d) (h : xs[o]? = some x) : (part t xs.toArray o).run P w = .ok x w := by
  simp [part, run_isAgg_scal hd, h]
theorem run_eqFields_plan {n : Nat} {xs ys : List Value} : ∀ {fs : List Field} {pl : List (TypeDesc × Nat)} {b : Bool}, planS P fs = some pl → eqL pl xs ys = some b → (Op.eqFields (n + 1) xs.toArray ys.toArray fs).run P w = .ok b w
  | [], pl, b, hp, h => by
    simp [planS] at hp; subst hp
    simp [eqL] at h; subst h
    simp [Op.eqFields]
  | f :: fs, pl, b, hp, h => by
    simp only [planS, List.mapM_cons, Option.bind_eq_bind] at hp
    obtain ⟨p, hp1, hp⟩ := Option.bind_eq_some_iff.1 hp
    obtain ⟨pl', hp2, hp⟩ := Option.bind_eq_some_iff.1 hp
    simp at hp; subst hp
    split at hp1
    · cases hp1
    rename_i hnm
    obtain ⟨d, hd, rfl⟩ := Option.map_eq_some_iff.1 hp1
    have key : ∃ x y b0, xs[f.offset]? = some x ∧ ys[f.offset]? = some y ∧ cellEq d x y = some b0 ∧ ((b = b0 ∧ pl' = []) ∨ ∃ b1, eqL pl' xs ys = some b1 ∧ b = (b0 && b1)) := by
      cases pl' with
      | nil =>
        simp only [eqL] at h
        obtain ⟨x, hx, h⟩ := Option.bind_eq_some_iff.1 h
        obtain ⟨y, hy, h⟩ := Option.bind_eq_some_iff.1 h
        exact ⟨x, y, b, hx, hy, h, .inl ⟨rfl, rfl⟩⟩
      | cons q l =>
        simp only [eqL] at h
        obtain ⟨x, hx, h⟩ := Option.bind_eq_some_iff.1 h
        obtain ⟨y, hy, h⟩ := Option.bind_eq_some_iff.1 h
        obtain ⟨b0, h0, h⟩ := Option.bind_eq_some_iff.1 h
        obtain ⟨b1, h1, rfl⟩ := Option.map_eq_some_iff.1 h
        exact ⟨x, y, b0, hx, hy, h0, .inr ⟨b1, h1, rfl⟩⟩
    obtain ⟨x, y, b0, hx, hy, h0, hb⟩ := key
    have hrec : ∀ b1, eqL pl' xs ys = some b1 → (Op.eqFields (n + 1) xs.toArray ys.toArray fs).run P w = .ok b1 w := fun b1 h1 => run_eqFields_plan hp2 h1
    have hnm' : f.name ≠ "_" := hnm
    simp only [Op.eqFields, hnm', ne_eq, not_false_eq_true, if_true, Sem.run_bind, run_part_scal hd hx, run_part_scal hd hy, Result.andThen_ok, run_equalIn_cell hd h0]
    rcases hb with ⟨rfl, rfl⟩ | ⟨b1, h1, rfl⟩
    · cases b
      · simp
      · simp [hrec true rfl]
    · cases b0
      · simp
      · simp [hrec b1 h1]
theorem x_eqls {x y : Operand} {t t' : TypeId} {pl : List (TypeDesc × Nat)} {xs ys : List Value} {b : Bool} (hp : structOf P t = some pl) (hg : P.eqGuardType P.depth t = false) (hx : ev r x = .agg xs.toArray) (hy : ev r y = .agg ys.toArray) (he : eqL pl xs ys = some b) :
    (execOp (ev r) ⟨dst, .binOp .eql t x y t', ty, pos, af, gd⟩).run P w = .ok (.value (.bool b)) w := by
  unfold structOf at hp
  split at hp
  · rename_i fs hfs
    split at hp
    · cases hp
    · rename_i hst
      have hst : P.stoodInHeld t = false := by simpa using hst
      have hfo : P.fieldsOf t = fs := by simp [Program.fieldsOf, hfs]
      simp [execOp, hx, hy, run_eqGuard_agg (P := P) w _ t x y _ _ hg, run_eql_struct, run_equalIn_agg (P := P) w _ t _ _ (by rw [hfo]; exact hfs) hst, hfo, run_eqFields_plan hp he]
  · cases hp
theorem x_neqs {x y : Operand} {t t' : TypeId} {pl : List (TypeDesc × Nat)} {xs ys : List Value} {b : Bool} (hp : structOf P t = some pl) (hg : P.eqGuardType P.depth t = false) (hx : ev r x = .agg xs.toArray) (hy : ev r y = .agg ys.toArray) (he : eqL pl xs ys = some b) :
    (execOp (ev r) ⟨dst, .binOp .neq t x y t', ty, pos, af, gd⟩).run P w = .ok (.value (.bool (!b))) w := by
  unfold structOf at hp
  split at hp
  · rename_i fs hfs
    split at hp
    · cases hp
    · rename_i hst
      have hst : P.stoodInHeld t = false := by simpa using hst
      have hfo : P.fieldsOf t = fs := by simp [Program.fieldsOf, hfs]
      simp [execOp, hx, hy, run_eqGuard_agg (P := P) w _ t x y _ _ hg, run_neq_struct, run_equalIn_agg (P := P) w _ t _ _ (by rw [hfo]; exact hfs) hst, hfo, run_eqFields_plan hp he]
  · cases hp
end

/-! ### arrays compared -/
section
variable {P : Program} {r : Regs} {w : World} {dst : Option Tmp} {ty : TypeId} {pos : String} {af : Array Edge} {gd : Option (Nat × Bool)}
def arrPlan (P : Program) (t : TypeId) : Option (List (TypeDesc × Nat)) :=
  match P.underlying t with
  | some (.array n e) => if szOf P e = some 1 then (scalDesc (P.underlying e)).map fun d => (List.range n).map fun i => (d, i) else none
  | _ => none
def eqFrom (n : Nat) (e : TypeId) (xs ys : Array Value) : Nat → Nat → Sem Bool
  | 0, _ => pure true
  | k + 1, i => do
    if !(← Op.equalIn n e (← part e xs (i * 1)) (← part e ys (i * 1))) then return false
    eqFrom n e xs ys k (i + 1)
theorem run_eqFrom {n : Nat} {e : TypeId} {d : TypeDesc} {xs ys : List Value} (hd : scalDesc (P.underlying e) = some d) : ∀ (k i : Nat) (b : Bool), eqL ((List.range' i k).map fun i => (d, i)) xs ys = some b → (eqFrom (n + 1) e xs.toArray ys.toArray k i).run P w = .ok b w
  | 0, i, b, h => by
    simp [eqL] at h; subst h; simp [eqFrom]
  | k + 1, i, b, h => by
    have key : ∃ x y b0, xs[i]? = some x ∧ ys[i]? = some y ∧ cellEq d x y = some b0 ∧ ((b = b0 ∧ k = 0) ∨ ∃ b1, eqL ((List.range' (i + 1) k).map fun i => (d, i)) xs ys = some b1 ∧ b = (b0 && b1)) := by
      cases k with
      | zero =>
        replace h : eqL [(d, i)] xs ys = some b := h
        simp only [eqL] at h
        obtain ⟨x, hx, h⟩ := Option.bind_eq_some_iff.1 h
        obtain ⟨y, hy, h⟩ := Option.bind_eq_some_iff.1 h
        exact ⟨x, y, b, hx, hy, h, .inl ⟨rfl, rfl⟩⟩
      | succ k =>
        replace h : eqL ((d, i) :: (d, i + 1) :: (List.range' (i + 1 + 1) k).map fun i => (d, i)) xs ys = some b := h
        simp only [eqL] at h
        obtain ⟨x, hx, h⟩ := Option.bind_eq_some_iff.1 h
        obtain ⟨y, hy, h⟩ := Option.bind_eq_some_iff.1 h
        obtain ⟨b0, h0, h⟩ := Option.bind_eq_some_iff.1 h
        obtain ⟨b1, h1, rfl⟩ := Option.map_eq_some_iff.1 h
        exact ⟨x, y, b0, hx, hy, h0, .inr ⟨b1, h1, rfl⟩⟩
    obtain ⟨x, y, b0, hx, hy, h0, hb⟩ := key
    have hrec : ∀ b1, eqL ((List.range' (i + 1) k).map fun i => (d, i)) xs ys = some b1 → (eqFrom (n + 1) e xs.toArray ys.toArray k (i + 1)).run P w = .ok b1 w := fun b1 h1 => run_eqFrom hd k (i + 1) b1 h1
    simp only [eqFrom, Sem.run_bind, Nat.mul_one, run_part_scal hd hx, run_part_scal hd hy, Result.andThen_ok, run_equalIn_cell hd h0]
    rcases hb with ⟨rfl, rfl⟩ | ⟨b1, h1, rfl⟩
    · cases b
      · simp
      · simp [hrec true rfl]
    · cases b0
      · simp
      · simp [hrec b1 h1]
theorem run_equalIn_arr {m n : Nat} {t e : TypeId} {d : TypeDesc} {xs ys : List Value} {b : Bool} (ht : P.underlying t = some (.array m e)) (hz : szOf P e = some 1) (hd : scalDesc (P.underlying e) = some d) (h : eqL ((List.range m).map fun i => (d, i)) xs ys = some b) :
    (Op.equalIn (n + 2) t (.agg xs.toArray) (.agg ys.toArray)).run P w = .ok b w := by
  unfold szOf at hz
  obtain ⟨inf, hq, hsz⟩ := Option.map_eq_some_iff.1 hz
  rw [List.range_eq_range'] at h
  have h1 := run_eqFrom (P := P) (w := w) (n := n) hd m 0 b h
  rw [← h1]
  rw [Op.equalIn.eq_2]
  simp only [Sem.run_bind, run_underlying ht, Result.andThen_ok, sizeOf, typeInfo, hq, hsz, run_program, Sem.run_pure, Std.Legacy.Range.forIn_eq_forIn_range', Std.Legacy.Range.size, Nat.sub_zero, Nat.add_sub_cancel, Nat.div_one]
  clear h1 h ht hz
  generalize (0 : Nat) = i
  induction m generalizing i w with
  | zero => simp [eqFrom]
  | succ k ih =>
    rw [List.range'_succ, List.forIn_cons]
    simp only [eqFrom, Sem.run_bind]
    generalize (part e xs.toArray (i * 1)).run P w = r1
    cases r1 with
    | halt x w1 => simp [Result.andThen]
    | ok a w1 =>
      simp only [Result.andThen_ok]
      generalize (part e ys.toArray (i * 1)).run P w1 = r2
      cases r2 with
      | halt x w2 => simp [Result.andThen]
      | ok b w2 =>
        simp only [Result.andThen_ok]
        generalize (Op.equalIn (n + 1) e a b).run P w2 = r3
        cases r3 with
        | halt x w3 => simp [Result.andThen]
        | ok q w3 =>
          cases q
          · simp
          · simp only [Result.andThen_ok, Bool.not_true, Bool.false_eq_true, if_false, Sem.run_pure]
            exact ih (i + 1)
theorem x_eqlsArr {x y : Operand} {t t' : TypeId} {pl : List (TypeDesc × Nat)} {xs ys : List Value} {b : Bool} (hp : arrPlan P t = some pl) (hg : P.eqGuardType P.depth t = false) (hx : ev r x = .agg xs.toArray) (hy : ev r y = .agg ys.toArray) (he : eqL pl xs ys = some b) :
    (execOp (ev r) ⟨dst, .binOp .eql t x y t', ty, pos, af, gd⟩).run P w = .ok (.value (.bool b)) w := by
  unfold arrPlan at hp
  split at hp
  · rename_i m e ht
    split at hp
    · rename_i hz
      obtain ⟨d, hd, rfl⟩ := Option.map_eq_some_iff.1 hp
      simp [execOp, hx, hy, run_eqGuard_agg (P := P) w _ t x y _ _ hg, run_eql_struct, run_equalIn_arr ht hz hd he]
    · cases hp
  · cases hp
theorem x_neqsArr {x y : Operand} {t t' : TypeId} {pl : List (TypeDesc × Nat)} {xs ys : List Value} {b : Bool} (hp : arrPlan P t = some pl) (hg : P.eqGuardType P.depth t = false) (hx : ev r x = .agg xs.toArray) (hy : ev r y = .agg ys.toArray) (he : eqL pl xs ys = some b) :
    (execOp (ev r) ⟨dst, .binOp .neq t x y t', ty, pos, af, gd⟩).run P w = .ok (.value (.bool (!b))) w := by
  unfold arrPlan at hp
  split at hp
  · rename_i m e ht
    split at hp
    · rename_i hz
      obtain ⟨d, hd, rfl⟩ := Option.map_eq_some_iff.1 hp
      simp [execOp, hx, hy, run_eqGuard_agg (P := P) w _ t x y _ _ hg, run_neq_struct, run_equalIn_arr ht hz hd he]
    · cases hp
  · cases hp
end
/-! ### memory -/
section
variable {α : Type} {K : Kd α} {w : World} {ok : Nat → Prop}
theorem Rd.openAt {A : Option Addr} {c : Nat} {xs : List α} (h : Rd K w ok A c xs) {g o : Nat} (hA : A = some ⟨g, o, none⟩) {j : Nat} {x : α} (hx : xs[j]? = some x) :
    ∃ cs, K.rel w ok cs x ∧ CellsAt w g (o + j * K.sz) cs ∧ (ok g ∧ g < w.heap.size) := by
  have hne : xs ≠ [] := by rintro rfl; simp at hx
  obtain ⟨g', o', hA', hg, hlt, hc⟩ := h.2.2 hne
  rw [hA] at hA'
  simp only [Option.some.injEq, Addr.mk.injEq, and_true] at hA'
  obtain ⟨rfl, rfl⟩ := hA'
  obtain ⟨cs, hk, hat⟩ := hc _ x hx
  exact ⟨cs, hk, hat, hg, hlt⟩
theorem Chunks.of_at : ∀ {cs : List Value} {xs : List α}, cs.length = xs.length * K.sz → (∀ (i : Nat) (x : α), xs[i]? = some x → K.rel w ok ((cs.drop (i * K.sz)).take K.sz) x) → Chunks K w ok cs xs
  | cs, [], hl, _ => by
    show cs = []
    exact List.eq_nil_of_length_eq_zero (by simpa using hl)
  | cs, x :: xs, hl, h => by
    refine ⟨by simpa using h 0 x rfl, Chunks.of_at ?_ fun i y hi => ?_⟩
    · rw [List.length_drop, hl, List.length_cons, Nat.add_mul]; omega
    · rw [List.drop_drop]
      have := h (i + 1) y (by simpa using hi)
      rwa [show (i + 1) * K.sz = K.sz + i * K.sz by rw [Nat.add_mul, Nat.one_mul, Nat.add_comm]] at this
theorem Chunks.app : ∀ {cs : List Value} {xs : List α} {ds : List Value} {ys : List α}, Chunks K w ok cs xs → Chunks K w ok ds ys → Chunks K w ok (cs ++ ds) (xs ++ ys)
  | cs, [], ds, ys, h, hy => by
    have h0 : cs = [] := h
    subst h0
    simpa using hy
  | cs, x :: xs, ds, ys, h, hy => by
    obtain ⟨ce, rest, rfl, hl, hx, h2⟩ := h.split
    have := Chunks.join hx (Chunks.app h2 hy)
    simpa [List.append_assoc] using this
/-- All of what a slice that may be read holds, cell by cell. -/
theorem Rd.chunks {g o c : Nat} {xs : List α} (h : Rd K w ok (some ⟨g, o, none⟩) c xs) : ∃ news, CellsAt w g o news ∧ Chunks K w ok news xs := by
  have key : ∀ (ys : List α) (b : Nat), (∀ (i : Nat) (x : α), ys[i]? = some x → ∃ cs, K.rel w ok cs x ∧ CellsAt w g (b + i * K.sz) cs) → ∃ news, CellsAt w g b news ∧ Chunks K w ok news ys := by
    intro ys
    induction ys with
    | nil => exact fun b _ => ⟨[], fun j v hj => by simp at hj, rfl⟩
    | cons y ys ih =>
      intro b hb
      obtain ⟨cs, hk, hat⟩ := hb 0 y rfl
      obtain ⟨news, hn, hc⟩ := ih (b + K.sz) fun i x hi => by
        obtain ⟨cs, hk, hat⟩ := hb (i + 1) x (by simpa using hi)
        refine ⟨cs, hk, ?_⟩
        rwa [show b + (i + 1) * K.sz = b + K.sz + i * K.sz by rw [Nat.add_mul, Nat.one_mul]; omega] at hat
      have hl := K.len hk
      refine ⟨cs ++ news, fun j v hj => ?_, Chunks.join hk hc⟩
      rcases Nat.lt_or_ge j cs.length with hlt | hge
      · rw [List.getElem?_append_left hlt] at hj
        have := hat j v hj
        simpa using this
      · rw [List.getElem?_append_right hge] at hj
        have := hn (j - cs.length) v hj
        rwa [show b + K.sz + (j - cs.length) = b + j by omega] at this
  by_cases hne : xs = []
  · subst hne; exact ⟨[], fun j v hj => by simp at hj, rfl⟩
  · obtain ⟨g', o', hA, hg, hlt, hc⟩ := h.2.2 hne
    simp only [Option.some.injEq, Addr.mk.injEq, and_true] at hA
    obtain ⟨rfl, rfl⟩ := hA
    exact key xs o hc
end
section
variable {ok0 : Nat → Prop} {w0 w w' : World} {L : List Ent} {Rs : List RE}
theorem Sep.blkRd {i b t : Nat} {cs : List Value} (H : Sep ok0 w0 w L Rs) (hi : L[i]? = some (.blk b t cs)) : (RE.cells b 0 cs).rel w (fun _ => True) :=
  ⟨trivial, lt_of_heap (H.ents i _ hi), H.cells hi⟩
theorem Sep.cellsR {i g o : Nat} {cs : List Value} (H : Sep ok0 w0 w L Rs) (hi : Rs[i]? = some (RE.cells g o cs)) : CellsAt w g o cs := (H.rds i _ hi).2.2
theorem Sep.rowFlatAt {α : Type} {n : Nat} {enc : α → List Value} {hl : ∀ x, (enc x).length = n} {h1 : ∀ x, ∀ v ∈ enc x, v.oneCell' = true} {i j e c g : Nat} {A : Option Addr} {cs : List Value} {xs : List α} (H : Sep ok0 w0 w L Rs)
    (hi : L[i]? = some (.row (.slice A xs.length c) e (Kd.flat n enc hl h1).sz xs.length cs)) (hj : Rs[j]? = some (RE.chunks (Kd.flat n enc hl h1) cs xs)) (hA : A = some ⟨g, 0, none⟩) {m : Nat} {x : α} (hx : xs[m]? = some x) : CellsAt w g (0 + m * n) (enc x) := by
  obtain ⟨g', ce, hA', hr, hat⟩ := H.rowIdx (m := (m : Int)) hi hj hx
  rw [hA] at hA'
  simp only [Option.some.injEq, Addr.mk.injEq, and_true] at hA'
  subst hA'
  have : ce = enc x := hr
  subst this
  exact hat
/-- A variable that holds the elements of a literal: a slice that may be read. -/
theorem Sep.litRd {α : Type} {D : Kd α} {i b e : Nat} {cs : List Value} {xs : List α} (H : Sep ok0 w0 w L Rs) (hi : L[i]? = some (.blk b e cs)) (hc : Chunks D w (fun _ => True) cs xs) (hl : Nat.ble xs.length 9223372036854775807 = true) :
    Rd D w (fun _ => True) (some ⟨b, 0, none⟩) xs.length xs := by
  have hh := H.ents i _ hi
  refine ⟨Nat.le_refl _, Nat.le_of_ble_eq_true hl, fun hne => ⟨b, 0, rfl, trivial, lt_of_heap hh, fun j x hj => ⟨_, hc.at_ j x hj, ?_⟩⟩⟩
  refine CellsAt.of_heap (cur := cs) (t := e) (fr := (0, 0)) hh fun k v hk => ?_
  rw [List.getElem?_take] at hk
  split at hk
  · rw [List.getElem?_drop] at hk
    rw [← hk]; congr 1; omega
  · cases hk
theorem of_mem_pick {js : List Nat} {b : Nat} (h : b ∈ blks (js.filterMap (L[·]?))) : ∃ j e, j ∈ js ∧ L[j]? = some e ∧ b ∈ e.blks := by
  obtain ⟨i, e, hi, hb⟩ := of_mem_blks h
  obtain ⟨j, hj, he⟩ := List.mem_filterMap.1 (List.mem_of_getElem? hi)
  exact ⟨j, e, hj, he, hb⟩
theorem blks_nodup_at {L : List Ent} (hn : (blks L).Nodup) {i : Nat} {e : Ent} (hi : L[i]? = some e) : e.blks.Nodup := by
  induction L generalizing i with
  | nil => simp at hi
  | cons x L ih =>
    simp only [blks, List.nodup_append] at hn
    cases i with
    | zero => simp at hi; subst hi; exact hn.1
    | succ i => exact ih hn.2.1 (by simpa using hi)
theorem nodup_pick (hn : (blks L).Nodup) : ∀ (js : List Nat), js.Nodup → (blks (js.filterMap (L[·]?))).Nodup
  | [], _ => by simp [blks]
  | j :: js, h => by
    have h2 := List.nodup_cons.1 h
    cases hj : L[j]? with
    | none => simpa [List.filterMap_cons, hj] using nodup_pick hn js h2.2
    | some e =>
      rw [List.filterMap_cons, hj]
      show (e.blks ++ blks (js.filterMap (L[·]?))).Nodup
      refine nodup_app (blks_nodup_at hn hj) (nodup_pick hn js h2.2) fun x hx' hx => ?_
      obtain ⟨j', e', hj', he', hb⟩ := of_mem_pick hx'
      exact other_blk hn hj he' (fun h => h2.1 (h ▸ hj')) hx hb
/-- Some of the things of its own, in an order. -/
theorem Sep.pickL (h : Sep ok0 w0 w L Rs) (js : List Nat) (hn : js.Nodup) : Sep ok0 w0 w (js.filterMap (L[·]?)) Rs := by
  refine h.step h.base (Nat.le_refl _) ?_ (fun b hb => ?_) (nodup_pick h.nodup js hn) fun b hb hl => ⟨fun hb' => ?_, rfl⟩
  · intro i e hi
    obtain ⟨j, _, he⟩ := List.mem_filterMap.1 (List.mem_of_getElem? hi)
    exact h.ents j e he
  · obtain ⟨j, e, _, he, hb⟩ := of_mem_pick hb
    exact h.ge b (mem_blks he hb)
  · obtain ⟨j, e, _, he, hb2⟩ := of_mem_pick hb'
    exact hb (mem_blks he hb2)
theorem Sep.nilHole (H : Sep ok0 w0 w L Rs) : Sep ok0 w0 w (L ++ [.hole]) Rs :=
  H.push _ (Below.refl _ w) (show True from trivial) (by simp [Ent.blks]) (by simp [Ent.blks])
theorem Sep.nilRowK {α : Type} (H : Sep ok0 w0 w L Rs) (t : Nat) (D : Kd α) : Sep ok0 w0 w (L ++ [.row (.slice none 0 0) t D.sz 0 []]) (Rs ++ [RE.chunks D [] []]) :=
  (H.nilRow t D.sz).also (re := RE.chunks D [] []) rfl
theorem okS_set {i : Nat} {e e' : Ent} (hi : L[i]? = some e) (he : e'.blks = e.blks) : okS ok0 w0 (L.set i e') = okS ok0 w0 L := by
  funext b
  simp only [okS, blks_set hi he]
/-- .. or a row of the call's own. -/
theorem Sep.rowOf {α : Type} {D : Kd α} {i b e : Nat} {cs : List Value} {xs : List α} (H : Sep ok0 w0 w L Rs) (hi : L[i]? = some (.blk b e cs)) (hc : Chunks D w (okS ok0 w0 L) cs xs) (hl : Nat.ble xs.length 9223372036854775807 = true) :
    Sep ok0 w0 w (L.set i (.row (.slice (some ⟨b, 0, none⟩) xs.length xs.length) e D.sz xs.length cs)) (Rs ++ [RE.chunks D cs xs]) := by
  have hh := H.ents i _ hi
  have hbl : (Ent.row (.slice (some ⟨b, 0, none⟩) xs.length xs.length) e D.sz xs.length cs).blks = (Ent.blk b e cs).blks := by simp [Ent.blks, Value.ownBlock]
  have h1 := H.upd_ (w' := w) (e' := .row (.slice (some ⟨b, 0, none⟩) xs.length xs.length) e D.sz xs.length cs) hi hbl
    ⟨hc.len, .inr ⟨b, xs.length, cs.toArray, rfl, Nat.zero_le _, hh, Nat.le_refl _, Nat.le_of_ble_eq_true hl, by simpa using hc.len, by simp [List.take_of_length_le (Nat.le_of_eq hc.len)]⟩⟩ rfl rfl rfl rfl fun _ _ => rfl
  exact h1.also (re := RE.chunks D cs xs) (by rw [okS_set hi hbl]; exact hc)
end
section
variable {P : Program} {ops : Array Oper} {n : Nat} {r : Regs} {ok0 : Nat → Prop} {w0 w : World} {K : Regs → World → Prop} {L : List Ent} {Rs : List RE} {d : Nat} {ty : TypeId} {pos : String} {af : Array Edge} {gd : Option (Nat × Bool)}
theorem O_buildSlice {t e len sz : Nat} {ps : List (Nat × Operand)} {vs : List (Nat × Value)} {cs : List Value} {z : Value} (hw : wantedR ops r ⟨some d, .buildSlice t len ps.toArray, ty, pos, af, gd⟩ = true) (hn : Nat.blt d n = true)
    (hu : slElem P t = some e) (hz : szOf P e = some sz) (hz0 : zeroOf P e = some z) (hs : Nat.ble (len * sz) 16777216 = true) (hp : Nat.blt 0 (len * sz) = true) (hv : ps.map (fun p => (p.1, ev r p.2)) = vs)
    (hf : Instr.fill (fun i => some (i * sz, sz)) ((Array.range (len * sz)).map (z.cells[· % z.cells.size]!)) vs = some cs.toArray) (H : Sep ok0 w0 w L Rs)
    (h : ∀ w' b, Sep ok0 w0 w' (L ++ [.blk b e cs]) Rs → K (upd r d (.slice (some ⟨b, 0, none⟩) len len)) w') : OpR P ops n ⟨some d, .buildSlice t len ps.toArray, ty, pos, af, gd⟩ r w K := by
  subst hv
  unfold szOf at hz; unfold zeroOf at hz0
  obtain ⟨inf, hq, rfl⟩ := Option.map_eq_some_iff.1 hz
  simp only [hq, Option.bind_some] at hz0
  have hrun := run_buildSlice (P := P) w t e len ((ps.map fun p => (p.1, ev r p.2)).toArray) cs.toArray inf z (slElem_un hu) hq hz0 (by have := Nat.le_of_ble_eq_true hs; omega) (by have := lt_of_blt hp; omega) hf
  refine OpR_val hw rfl hn (v := .slice (some ⟨w.heap.size, 0, none⟩) len len) (w' := w.alloc (.cells cs.toArray e)) ?_ (h _ _ (H.alloc e cs))
  simp only [execOp, Sem.run_bind]
  rw [show (ps.toArray.map fun (x : Nat × Operand) => match x with | (i, x) => (i, ev r x)) = (ps.map fun p => (p.1, ev r p.2)).toArray by simp, hrun]
  rfl
theorem run_append_none {w : World} {base : Nat} {t ty e : TypeId} {i : TypeInfo} {size : Nat} (ht : P.underlying t = some (.slice e)) (hi : P.info? e = some i) {v : Value} {n : Nat} {xs : List Value} (hown : w.ownsRow base e size v n xs) (c2 : Nat) :
    (Builtin.append_ #[t, t] ty #[v, .slice none 0 c2]).run P w = .ok v w := by
  rcases hown.2 with ⟨rfl, rfl⟩ | ⟨g, cap, cur, rfl, _, _, hnc, _⟩
  · simp [Builtin.append_, run_underlying ht, sizeOf, typeInfo, hi, Builtin.lenOf, Builtin.firstCells]
  · simp [Builtin.append_, run_underlying ht, sizeOf, typeInfo, hi, Builtin.lenOf, Builtin.firstCells, hnc, storeCells]
/-- append(v, s...): all of s. -/
theorem O_appendAll {α : Type} {D : Kd α} {s x : Operand} {t e i j c2 c bytes : Nat} {A A2 : Option Addr} {cs : List Value} {xs ys zs : List α} {z : Value}
    (hw : wantedR ops r ⟨some d, .call { callee := .builtin .append, args := #[s, x], argTypes := #[t, t] }, ty, pos, af, gd⟩ = true) (hn : Nat.blt d n = true)
    (hs : ev r s = .slice A xs.length c) (hx : ev r x = .slice A2 zs.length c2) (H : Sep ok0 w0 w L Rs) (hi : L[i]? = some (.row (.slice A xs.length c) e D.sz xs.length cs)) (hj : Rs[j]? = some (RE.chunks D cs xs))
    (hr : Rd D w (okS ok0 w0 L) A2 c2 zs) (hys : xs ++ zs = ys)
    (hu : slElem P t = some e) (hz : szOf P e = some D.sz) (hby : bytesOf P e = some bytes) (hz0 : zeroOf P e = some z) (hzs : z.cells.size = D.sz) (hpos : Nat.blt 0 D.sz = true) (hb : (xs.length + zs.length) * bytes ≤ 140737488355328) (hb0 : Nat.blt 0 bytes = true)
    (h : ∀ w' A' c' cs', Sep ok0 w0 w' (L.set i (.row (.slice A' ys.length c') e D.sz ys.length cs')) (Rs.set j (RE.chunks D cs' ys)) → K (upd r d (.slice A' ys.length c')) w') :
    OpR P ops n ⟨some d, .call { callee := .builtin .append, args := #[s, x], argTypes := #[t, t] }, ty, pos, af, gd⟩ r w K := by
  unfold szOf at hz; unfold bytesOf at hby; unfold zeroOf at hz0
  obtain ⟨inf, hq, hsz⟩ := Option.map_eq_some_iff.1 hz
  simp only [hq, Option.map_some, Option.some.injEq, Option.bind_some] at hby hz0
  have hrow := H.ents i _ hi
  have hch : Chunks D w (okS ok0 w0 L) cs xs := H.rds j _ hj
  have hlen : xs.length + zs.length ≤ 140737488355328 := Nat.le_trans (Nat.le_mul_of_pos_right _ (lt_of_blt hb0)) hb
  have hmain : ∃ news v' w', Chunks D w (okS ok0 w0 L) news zs ∧ (Builtin.append_ #[t, t] ty #[.slice A xs.length c, .slice A2 zs.length c2]).run P w = .ok v' w' ∧ w'.ownsRow 0 e D.sz v' (xs.length + zs.length) (cs ++ news) ∧
      w.grownBy w' (Value.slice A xs.length c).ownBlock ∧ (v'.ownBlock = (Value.slice A xs.length c).ownBlock ∨ v'.ownBlock = some w.heap.size) := by
    cases A2 with
    | none =>
      have hnil : zs = [] := by
        by_cases hne : zs = []
        · exact hne
        · obtain ⟨g, o, hA, _⟩ := hr.2.2 hne; cases hA
      subst hnil
      have hrow' : w.ownsRow 0 e D.sz (.slice A xs.length c) xs.length cs := hrow
      refine ⟨[], _, w, rfl, run_append_none (slElem_un hu) hq hrow' c2, by simpa using hrow', ⟨rfl, rfl, rfl, Nat.le_refl _, fun _ _ _ => rfl⟩, .inl rfl⟩
    | some a =>
      have hnews : ∃ news, (∀ j u, news[j]? = some u → w.cell? (a.add j) = some u) ∧ Chunks D w (okS ok0 w0 L) news zs := by
        by_cases hne : zs = []
        · subst hne; exact ⟨[], fun j v hj => by simp at hj, rfl⟩
        · obtain ⟨g, o, hA, _⟩ := hr.2.2 hne
          cases hA
          obtain ⟨news, h1, h2⟩ := hr.chunks
          exact ⟨news, fun k u hk => by rw [add_plain]; exact h1 k u hk, h2⟩
      obtain ⟨news, hat, hcn⟩ := hnews
      obtain ⟨v', w', hrun, hown, hg, _, hat'⟩ := run_append_own_at (P := P) w 0 t ty e inf z D.sz bytes (slElem_un hu) hq hz0 hsz hby hzs (lt_of_blt hpos) _ xs.length cs hrow a zs.length c2 news hcn.len
        hat hcn.one (by simp only [maxLen]; omega) hb (Nat.zero_le _)
      exact ⟨news, v', w', hcn, hrun, hown, hg, hat'⟩
  obtain ⟨news, v', w', hcn, hrun, hown, hg, hat⟩ := hmain
  obtain ⟨A', c', rfl, hform⟩ := own_form hown
  have hl : xs.length + zs.length = ys.length := by subst hys; simp
  rw [hl] at hown hrun
  refine OpR_val hw rfl hn (v := .slice A' ys.length c') (w' := w') ?_ (h w' A' c' (cs ++ news) ?_)
  · simp [execOp, resolve, invoke, builtin, hs, hx, hrun]
  · have hlt : ∀ b, (Value.slice A' ys.length c').ownBlock = some b → b < w'.heap.size := fun b hb => (hown.lt b hb).2
    have hS := H.grow (w' := w') (e' := .row (.slice A' ys.length c') e D.sz ys.length (cs ++ news)) hi hown hg.size hg.os hg.tape hg.output (fun k hk hk' => hg.block k hk (fun he => hk' (by simp [Ent.blks, ← he])))
      (by simp only [Ent.blks]; cases (Value.slice A' ys.length c').ownBlock <;> simp) (fun b hb => by
        simp only [Ent.blks, Option.mem_toList] at hb
        have hb' : (Value.slice A' ys.length c').ownBlock = some b := hb
        refine ⟨?_, hlt b hb'⟩
        rw [← hl] at hb'
        rcases hat with h1 | h1
        · rw [h1] at hb'
          exact .inl (by simp [Ent.blks, hb'])
        · rw [h1] at hb'
          exact .inr (by simp at hb'; omega))
    refine hS.setR j ?_
    have hm : Mov w w' (okS ok0 w0 L) (okS ok0 w0 (L.set i (.row (.slice A' ys.length c') e D.sz ys.length (cs ++ news)))) := ⟨hg.size, fun b hb hlt' => ?_⟩
    · subst hys
      exact (hch.keep hm).app (hcn.keep hm)
    · have hnb : b ∉ (Ent.row (.slice A xs.length c) e D.sz xs.length cs).blks := fun hb' => hb.1 (mem_blks hi hb')
      refine ⟨⟨fun hb' => ?_, hb.2⟩, hg.block b hlt' (fun he => hnb (by simp [Ent.blks, ← he]))⟩
      rcases mem_blks_set hb' with ⟨h1, _⟩ | ⟨k, e2, hk, he2, h1⟩
      · simp only [Ent.blks, Option.mem_toList] at h1
        have h1' : (Value.slice A' ys.length c').ownBlock = some b := h1
        rw [← hl] at h1'
        rcases hat with h2 | h2
        · rw [h2] at h1'; exact hnb (by simp [Ent.blks, h1'])
        · rw [h2] at h1'; simp at h1'; omega
      · exact hb.1 (mem_blks he2 h1)
end
section
variable {P : Program} {ops : Array Oper} {n : Nat} {r : Regs} {ok0 : Nat → Prop} {w0 w : World} {K : Regs → World → Prop} {L : List Ent} {Rs : List RE} {d : Nat} {dst : Option Tmp} {ty : TypeId} {pos : String} {af : Array Edge} {gd : Option (Nat × Bool)}
theorem run_equalIn_nil {t e : TypeId} {A : Option Addr} {m c k : Nat} (hu : P.underlying t = some (.slice e)) : (Op.equalIn (k + 1) t (.slice A m c) (.slice none 0 0)).run P w = .ok A.isNone w := by
  cases A with
  | none => simp [Op.equalIn, run_underlying hu]
  | some a => simp [Op.equalIn, run_underlying hu]
theorem x_eqnil {x : Operand} {t t' e : TypeId} {A : Option Addr} {m c : Nat} (hu : slElem P t = some e) (hx : ev r x = .slice A m c) :
    (execOp (ev r) ⟨dst, .binOp .eql t x (.const (.slice none 0 0)) t', ty, pos, af, gd⟩).run P w = .ok (.value (.bool A.isNone)) w := by
  have h1 : (binOp .eql t (.slice A m c) (.slice none 0 0)).run P w = .ok (.bool A.isNone) w := by
    have : binOp .eql t (.slice A m c) (.slice none 0 0) = (do pure (.bool (← Op.equal t (.slice A m c) (.slice none 0 0)))) := rfl
    rw [this, Sem.run_bind]
    rw [show Op.equal t (.slice A m c) (.slice none 0 0) = Op.equalIn (9999 + 1) t (.slice A m c) (.slice none 0 0) from rfl, run_equalIn_nil (slElem_un hu)]
    rfl
  have h2 : (eqGuard .eql t x (.const (.slice none 0 0)) (.slice A m c) (.slice none 0 0)).run P w = .ok () w := by simp [eqGuard]
  show Sem.run P (do let v ← (do eqGuard .eql t x (.const (.slice none 0 0)) (ev r x) (.slice none 0 0); binOp .eql t (ev r x) (.slice none 0 0)); pure (Next.value v)) w = _
  rw [hx]
  simp only [Sem.run_bind, h2, Result.andThen_ok, h1, Sem.run_pure]
/-- An empty literal: a row of the call's own. -/
theorem O_buildSlice0 {α : Type} {D : Kd α} {t e : Nat} (hw : wantedR ops r ⟨some d, .buildSlice t 0 #[], ty, pos, af, gd⟩ = true) (hn : Nat.blt d n = true) (hu : slElem P t = some e) (hz : szOf P e = some D.sz) (H : Sep ok0 w0 w L Rs)
    (h : ∀ w' b, Sep ok0 w0 w' (L ++ [.row (.slice (some ⟨b, 0, none⟩) 0 0) e D.sz 0 []]) (Rs ++ [RE.chunks D [] []]) → K (upd r d (.slice (some ⟨b, 0, none⟩) 0 0)) w') : OpR P ops n ⟨some d, .buildSlice t 0 #[], ty, pos, af, gd⟩ r w K := by
  unfold szOf at hz
  obtain ⟨inf, hq, hsz⟩ := Option.map_eq_some_iff.1 hz
  refine OpR_val hw rfl hn (v := .slice (some ⟨w.heap.size, 0, none⟩) 0 0) (w' := w.alloc (.cells #[] e)) ?_ (h _ w.heap.size ?_)
  · simp [execOp, Instr.buildSlice, run_underlying (slElem_un hu), sizeOf, typeInfo, hq, Instr.fill, newRow]
    rw [show Array.range 0 = #[] from Array.eq_empty_of_size_eq_zero (by simp), Array.map_empty]
  · have h1 := H.alloc e []
    have h2 := h1.rowOf (D := D) (i := L.length) (b := w.heap.size) (e := e) (cs := []) (xs := []) (by simp) rfl (by rfl)
    have : (L ++ [Ent.blk w.heap.size e []]).set L.length (.row (.slice (some ⟨w.heap.size, 0, none⟩) 0 0) e D.sz 0 []) = L ++ [.row (.slice (some ⟨w.heap.size, 0, none⟩) 0 0) e D.sz 0 []] := by simp
    rw [← this]; exact h2
end
section
variable {P : Program} {ops : Array Oper} {n : Nat} {r : Regs} {ok0 : Nat → Prop} {w0 w : World} {K : Regs → World → Prop} {L : List Ent} {Rs : List RE} {d : Nat} {dst : Option Tmp} {ty : TypeId} {pos : String} {af : Array Edge} {gd : Option (Nat × Bool)}
theorem chunks_made {α : Type} {D : Kd α} {z : Value} {x0 : α} (hzs : z.cells.size = D.sz) (hr : ∀ w ok, D.rel w ok z.cells.toList x0) {w : World} {ok : Nat → Prop} (m : Nat) : Chunks D w ok (madeCells z.cells (m * D.sz)).toList (List.replicate m x0) := by
  refine Chunks.of_at (by simp [size_madeCells]) fun i x hi => ?_
  have hi' : i < m := by
    have := (List.getElem?_eq_some_iff.1 hi).1
    simpa using this
  have hx : x = x0 := by
    rw [List.getElem?_replicate] at hi
    rw [if_pos hi'] at hi
    exact (Option.some.inj hi).symm
  subst hx
  have hle : i * D.sz + D.sz ≤ m * D.sz := by
    have := Nat.mul_le_mul_right D.sz (show i + 1 ≤ m by omega)
    rwa [Nat.add_mul, Nat.one_mul] at this
  have : ((madeCells z.cells (m * D.sz)).toList.drop (i * D.sz)).take D.sz = z.cells.toList := by
    apply List.ext_getElem?
    intro j
    by_cases hj : j < D.sz
    · rw [List.getElem?_take, if_pos hj, List.getElem?_drop]
      have h1 : i * D.sz + j < m * D.sz := by omega
      have h2 : (i * D.sz + j) % z.cells.size = j := by rw [hzs, Nat.mul_comm, Nat.mul_add_mod, Nat.mod_eq_of_lt hj]
      have h3 : j < z.cells.size := by omega
      simp [madeCells, h1, h2, h3]
    · rw [List.getElem?_take, if_neg hj, List.getElem?_eq_none (by simp; omega)]
  rw [this]
  exact hr w ok
theorem O_makeSlice {α : Type} {D : Kd α} {t e bytes : Nat} {x y : Operand} {k k' : IntKind} {m : Int} {z : Value} {x0 : α} {ys : List α} (hw : wantedR ops r ⟨some d, .makeSlice t x y, ty, pos, af, gd⟩ = true) (hn : Nat.blt d n = true) (hx : ev r x = .int k m) (hy : ev r y = .int k' m)
    (hu : slElem P t = some e) (hz : szOf P e = some D.sz) (hby : bytesOf P e = some bytes) (hz0 : zeroOf P e = some z) (hzs : z.cells.size = D.sz) (hr : ∀ w ok, D.rel w ok z.cells.toList x0) (h0 : 0 ≤ m) (hys : List.replicate m.toNat x0 = ys) (hb : m * bytes ≤ 140737488355328) (H : Sep ok0 w0 w L Rs)
    (hbp : Nat.blt 0 bytes = true)
    (h : ∀ w' b cs, Sep ok0 w0 w' (L ++ [.row (.slice (some ⟨b, 0, none⟩) ys.length ys.length) e D.sz ys.length cs]) (Rs ++ [RE.chunks D cs ys]) → K (upd r d (.slice (some ⟨b, 0, none⟩) ys.length ys.length)) w') : OpR P ops n ⟨some d, .makeSlice t x y, ty, pos, af, gd⟩ r w K := by
  subst hys
  unfold szOf at hz; unfold bytesOf at hby; unfold zeroOf at hz0
  obtain ⟨inf, hq, hsz⟩ := Option.map_eq_some_iff.1 hz
  simp only [hq, Option.map_some, Option.some.injEq, Option.bind_some] at hby hz0
  obtain ⟨c, rfl⟩ : ∃ c : Nat, m = (c : Int) := ⟨m.toNat, by omega⟩
  have hb' : c * bytes ≤ 140737488355328 := by
    have : ((c * bytes : Nat) : Int) ≤ 140737488355328 := by rw [Int.natCast_mul]; exact hb
    omega
  have hlen : c ≤ 140737488355328 := Nat.le_trans (Nat.le_mul_of_pos_right _ (lt_of_blt hbp)) hb'
  obtain ⟨w', hrun, hown, hg⟩ := run_make_full (P := P) w 0 t e inf z D.sz (slElem_un hu) hq hz0 hsz k k' c (by rw [hby, Nat.mul_comm]; omega) (by simp only [maxLen]; omega) (Nat.zero_le _)
  have hl : (List.replicate (c : Int).toNat x0).length = c := by simp
  have hlt := (hown.lt w.heap.size rfl).2
  refine OpR_val hw rfl hn (v := .slice (some ⟨w.heap.size, 0, none⟩) (List.replicate (c : Int).toNat x0).length (List.replicate (c : Int).toNat x0).length) (w' := w') ?_ (h w' w.heap.size (madeCells z.cells (c * D.sz)).toList ?_)
  · rw [hl]
    simp [execOp, hx, hy, hrun]
  · have hbl : Below w.heap.size w w' := ⟨hg.os, hg.tape, hg.output, hg.size, fun i hi => hg.block i hi (by simp)⟩
    have h1 := H.push (e := .row (.slice (some ⟨w.heap.size, 0, none⟩) (List.replicate (c : Int).toNat x0).length (List.replicate (c : Int).toNat x0).length) e D.sz (List.replicate (c : Int).toNat x0).length (madeCells z.cells (c * D.sz)).toList) (w' := w') hbl (by rw [hl]; exact hown) (by simp [Ent.blks, Value.ownBlock]; exact hlt) (by simp [Ent.blks, Value.ownBlock])
    refine h1.also (re := RE.chunks D _ _) ?_
    have := chunks_made (D := D) (w := w') (ok := okS ok0 w0 (L ++ [.row (.slice (some ⟨w.heap.size, 0, none⟩) (List.replicate (c : Int).toNat x0).length (List.replicate (c : Int).toNat x0).length) e D.sz (List.replicate (c : Int).toNat x0).length (madeCells z.cells (c * D.sz)).toList])) hzs hr c
    show Chunks D w' _ _ _
    simpa using this
end
end Go.Proofs.YtobkigllalbkiaaV
