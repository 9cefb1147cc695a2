/- The operations' rules for the small logic. Nothing here names a program. -/
import Derived.Test.YtobkigllalbkiaaVMem
set_option linter.unusedVariables false
set_option linter.unusedSimpArgs false
namespace Go.Proofs.YtobkigllalbkiaaV
open Go.RowKit

def aggSz (P : Program) (t : TypeId) : Option Nat :=
  match P.underlying t with
  | some (.struct _) | some (.array _ _) => (P.info? t).map (·.size)
  | _ => none
def scal (P : Program) (t : TypeId) : Bool :=
  match P.underlying t with
  | some (.struct _) | some (.array _ _) | none => false
  | _ => true
def szOf (P : Program) (t : TypeId) : Option Nat := (P.info? t).map (·.size)
def bytesOf (P : Program) (t : TypeId) : Option Nat := (P.info? t).map (·.bytes)
def zeroOf (P : Program) (t : TypeId) : Option Value := (P.info? t).bind (·.zero)
def slElem (P : Program) (t : TypeId) : Option TypeId :=
  match P.underlying t with
  | some (.slice e) => some e
  | _ => none
theorem slElem_un {P : Program} {t e : TypeId} (h : slElem P t = some e) : P.underlying t = some (.slice e) := by
  unfold slElem at h
  split at h
  · rename_i e' he; simp at h; subst h; exact he
  · cases h

section
variable {P : Program} {r : Regs} {w : World} {dst : Option Tmp} {ty : TypeId} {pos : String} {af : Array Edge} {gd : Option (Nat × Bool)}

theorem x_move {x : Operand} {v : Value} (hx : ev r x = v) : (execOp (ev r) ⟨dst, .move x, ty, pos, af, gd⟩).run P w = .ok (.value v) w := by subst hx; rfl
theorem x_assign {x : Operand} {v : Value} (hx : ev r x = v) : (execOp (ev r) ⟨dst, .assign x, ty, pos, af, gd⟩).run P w = .ok (.value v) w := by subst hx; rfl
theorem x_pick {c x y : Operand} {b p q : Bool} (hc : ev r c = .bool b) (hx : ev r x = .bool p) (hy : ev r y = .bool q) : (execOp (ev r) ⟨dst, .pick c x y, ty, pos, af, gd⟩).run P w = .ok (.value (.bool (bif b then p else q))) w := by
  cases b <;> simp [execOp, asBool, hc, hx, hy]
theorem x_pick_t {c x y : Operand} {v : Value} (hc : ev r c = .bool true) (hx : ev r x = v) : (execOp (ev r) ⟨dst, .pick c x y, ty, pos, af, gd⟩).run P w = .ok (.value v) w := by
  simp [execOp, asBool, hc, hx]
theorem x_pick_f {c x y : Operand} {v : Value} (hc : ev r c = .bool false) (hy : ev r y = v) : (execOp (ev r) ⟨dst, .pick c x y, ty, pos, af, gd⟩).run P w = .ok (.value v) w := by
  simp [execOp, asBool, hc, hy]
section bin
variable {x y : Operand} {k : IntKind} {a b c : Int} {t t' : TypeId}
theorem x_add (hx : ev r x = .int k a) (hy : ev r y = .int k b) (hc : k.wrap (a + b) = c) : (execOp (ev r) ⟨dst, .binOp .add t x y t', ty, pos, af, gd⟩).run P w = .ok (.value (.int k c)) w := by
  subst hc; simp [execOp, hx, hy, eqGuard_at_int, binOp_add, Op.intArith]
theorem x_sub (hx : ev r x = .int k a) (hy : ev r y = .int k b) (hc : k.wrap (a - b) = c) : (execOp (ev r) ⟨dst, .binOp .sub t x y t', ty, pos, af, gd⟩).run P w = .ok (.value (.int k c)) w := by
  subst hc; simp [execOp, hx, hy, eqGuard_at_int, binOp_sub, Op.intArith]
theorem x_mul (hx : ev r x = .int k a) (hy : ev r y = .int k b) (hc : k.wrap (a * b) = c) : (execOp (ev r) ⟨dst, .binOp .mul t x y t', ty, pos, af, gd⟩).run P w = .ok (.value (.int k c)) w := by
  subst hc; simp [execOp, hx, hy, eqGuard_at_int, binOp_mul, Op.intArith]
theorem x_quo (hx : ev r x = .int k a) (hy : ev r y = .int k b) (hb : b ≠ 0) (hc : k.wrap (a.tdiv b) = c) : (execOp (ev r) ⟨dst, .binOp .quo t x y t', ty, pos, af, gd⟩).run P w = .ok (.value (.int k c)) w := by
  subst hc; simp [execOp, hx, hy, eqGuard_at_int, binOp_quo, Op.intDiv, hb]
theorem x_rem (hx : ev r x = .int k a) (hy : ev r y = .int k b) (hb : b ≠ 0) : (execOp (ev r) ⟨dst, .binOp .rem t x y t', ty, pos, af, gd⟩).run P w = .ok (.value (.int k (a.tmod b))) w := by
  simp [execOp, hx, hy, eqGuard_at_int, binOp_rem, Op.intDiv, hb]
theorem x_eql (hx : ev r x = .int k a) (hy : ev r y = .int k b) : (execOp (ev r) ⟨dst, .binOp .eql t x y t', ty, pos, af, gd⟩).run P w = .ok (.value (.bool (a == b))) w := by
  simp [execOp, hx, hy, eqGuard_at_int, binOp_eql]
theorem x_neq (hx : ev r x = .int k a) (hy : ev r y = .int k b) : (execOp (ev r) ⟨dst, .binOp .neq t x y t', ty, pos, af, gd⟩).run P w = .ok (.value (.bool (a != b))) w := by
  simp [execOp, hx, hy, eqGuard_at_int, binOp_neq]
theorem x_lss (hx : ev r x = .int k a) (hy : ev r y = .int k b) : (execOp (ev r) ⟨dst, .binOp .lss t x y t', ty, pos, af, gd⟩).run P w = .ok (.value (.bool (decide (a < b)))) w := by
  simp [execOp, hx, hy, eqGuard_at_int, binOp_lss]
theorem x_leq (hx : ev r x = .int k a) (hy : ev r y = .int k b) : (execOp (ev r) ⟨dst, .binOp .leq t x y t', ty, pos, af, gd⟩).run P w = .ok (.value (.bool (decide (a ≤ b)))) w := by
  simp [execOp, hx, hy, eqGuard_at_int, binOp_leq]
theorem x_gtr (hx : ev r x = .int k a) (hy : ev r y = .int k b) : (execOp (ev r) ⟨dst, .binOp .gtr t x y t', ty, pos, af, gd⟩).run P w = .ok (.value (.bool (decide (b < a)))) w := by
  simp [execOp, hx, hy, eqGuard_at_int, binOp_gtr]
theorem x_geq (hx : ev r x = .int k a) (hy : ev r y = .int k b) : (execOp (ev r) ⟨dst, .binOp .geq t x y t', ty, pos, af, gd⟩).run P w = .ok (.value (.bool (decide (b ≤ a)))) w := by
  simp [execOp, hx, hy, eqGuard_at_int, binOp_geq]
theorem x_eqlb {p q : Bool} (hu : P.underlying t = some .bool) (hx : ev r x = .bool p) (hy : ev r y = .bool q) : (execOp (ev r) ⟨dst, .binOp .eql t x y t', ty, pos, af, gd⟩).run P w = .ok (.value (.bool (p == q))) w := by
  simp [execOp, hx, hy, eqGuard_at_bool, binOp, Op.equal, Op.maxDepth, run_equalIn_bool' w 9999 t p q hu]
theorem x_neqb {p q : Bool} (hu : P.underlying t = some .bool) (hx : ev r x = .bool p) (hy : ev r y = .bool q) : (execOp (ev r) ⟨dst, .binOp .neq t x y t', ty, pos, af, gd⟩).run P w = .ok (.value (.bool (!(p == q)))) w := by
  simp [execOp, hx, hy, eqGuard_at_bool, binOp, Op.equal, Op.maxDepth, run_equalIn_bool' w 9999 t p q hu]
end bin
theorem x_not {x : Operand} {p : Bool} {t : TypeId} (hx : ev r x = .bool p) : (execOp (ev r) ⟨dst, .unOp .not t x, ty, pos, af, gd⟩).run P w = .ok (.value (.bool (!p))) w := by
  simp [execOp, hx, Op.unary]
theorem x_neg {x : Operand} {k : IntKind} {a c : Int} {t : TypeId} (hx : ev r x = .int k a) (hc : k.wrap (0 - a) = c) : (execOp (ev r) ⟨dst, .unOp .neg t x, ty, pos, af, gd⟩).run P w = .ok (.value (.int k c)) w := by
  subst hc; simp [execOp, hx, Op.unary, Op.intArith]
theorem x_conv {x : Operand} {k k' : IntKind} {a c : Int} {s d : TypeId} (hs : (P.underlying s).isSome = true) (hd : P.underlying d = some (.int k')) (hx : ev r x = .int k a) (hc : k'.wrap a = c) :
    (execOp (ev r) ⟨dst, .convert s d x, ty, pos, af, gd⟩).run P w = .ok (.value (.int k' c)) w := by
  subst hc
  obtain ⟨u, hu⟩ := Option.isSome_iff_exists.mp hs
  simp [execOp, hx, convert, run_underlying hu, run_underlying hd, Conv.intToInt]
theorem x_extract {x : Operand} {vs : Array Value} {i : Nat} {v : Value} (hx : ev r x = .tuple vs) (hv : vs[i]? = some v) : (execOp (ev r) ⟨dst, .extract x i, ty, pos, af, gd⟩).run P w = .ok (.value v) w := by
  simp [execOp, hx, Instr.extract, hv]
theorem x_len {x : Operand} {t e : TypeId} {A : Option Addr} {n c : Nat} (hu : slElem P t = some e) (hx : ev r x = .slice A n c) :
    (execOp (ev r) ⟨dst, .call { callee := .builtin .len, args := #[x], argTypes := #[t] }, ty, pos, af, gd⟩).run P w = .ok (.value (.int .i64 (n : Int))) w := by
  simp [execOp, resolve, invoke, builtin, hx, Builtin.len_, run_underlying (slElem_un hu), goInt]
def mn (a b : Int) : Int := if b < a then b else a
def mx (a b : Int) : Int := if b > a then b else a
section mm
variable {x y z u : Operand} {k : IntKind} {a b c d : Int} {ts : Array TypeId}
theorem x_min2 (hx : ev r x = .int k a) (hy : ev r y = .int k b) :
    (execOp (ev r) ⟨dst, .call { callee := .builtin .min, args := #[x, y], argTypes := ts }, ty, pos, af, gd⟩).run P w = .ok (.value (.int k (mn a b))) w := by
  simp [execOp, resolve, invoke, builtin, hx, hy, Builtin.min_, Builtin.min2, mn]
theorem x_min3 (hx : ev r x = .int k a) (hy : ev r y = .int k b) (hz : ev r z = .int k c) :
    (execOp (ev r) ⟨dst, .call { callee := .builtin .min, args := #[x, y, z], argTypes := ts }, ty, pos, af, gd⟩).run P w = .ok (.value (.int k (mn (mn a b) c))) w := by
  simp [execOp, resolve, invoke, builtin, hx, hy, hz, Builtin.min_, Builtin.min2, mn]
  try (congr)
theorem x_min4 (hx : ev r x = .int k a) (hy : ev r y = .int k b) (hz : ev r z = .int k c) (hu : ev r u = .int k d) :
    (execOp (ev r) ⟨dst, .call { callee := .builtin .min, args := #[x, y, z, u], argTypes := ts }, ty, pos, af, gd⟩).run P w = .ok (.value (.int k (mn (mn (mn a b) c) d))) w := by
  simp [execOp, resolve, invoke, builtin, hx, hy, hz, hu, Builtin.min_, Builtin.min2, mn]
  try (congr)
theorem x_max2 (hx : ev r x = .int k a) (hy : ev r y = .int k b) :
    (execOp (ev r) ⟨dst, .call { callee := .builtin .max, args := #[x, y], argTypes := ts }, ty, pos, af, gd⟩).run P w = .ok (.value (.int k (mx a b))) w := by
  simp [execOp, resolve, invoke, builtin, hx, hy, Builtin.max_, Builtin.max2, mx]
theorem x_max3 (hx : ev r x = .int k a) (hy : ev r y = .int k b) (hz : ev r z = .int k c) :
    (execOp (ev r) ⟨dst, .call { callee := .builtin .max, args := #[x, y, z], argTypes := ts }, ty, pos, af, gd⟩).run P w = .ok (.value (.int k (mx (mx a b) c))) w := by
  simp [execOp, resolve, invoke, builtin, hx, hy, hz, Builtin.max_, Builtin.max2, mx]
end mm
/-- A call of a function: what is asked of the program is one closed fact. -/
theorem x_call {f : Operand} {fid : FuncId} {first cap : Array Value} {xs : Array Operand} {ts : Array TypeId} {args : Array Value} (hf : ev r f = .func (.func fid) first cap) (ha : first ++ xs.map (ev r) ++ cap = args)
    (hc : (callFunc fid args).run P w = .ok (.enter fid args) w) :
    (execOp (ev r) ⟨dst, .call { callee := .value f, args := xs, argTypes := ts }, ty, pos, af, gd⟩).run P w = .ok (.enter fid args) w := by
  simp only [execOp, resolve, hf, Deferred.ofValue, Sem.run_bind, Sem.run_pure, Result.andThen_ok, invoke, ha, hc]

/-! ### addresses and loads -/
theorem add_plain (g o n : Nat) : (⟨g, o, none⟩ : Addr).add n = ⟨g, o + n, none⟩ := by unfold Addr.add; split <;> simp_all
theorem x_indexAddr {x i : Operand} {t e : TypeId} {k : IntKind} {j : Int} {A : Option Addr} {n c sz g o : Nat} (hu : slElem P t = some e) (hz : szOf P e = some sz) (hx : ev r x = .slice A n c) (hi : ev r i = .int k j)
    (hA : A = some ⟨g, o, none⟩) (h0 : 0 ≤ j) (h1 : j < n) : (execOp (ev r) ⟨dst, .indexAddr t x i, ty, pos, af, gd⟩).run P w = .ok (.value (.pointer (some ⟨g, o + j.toNat * sz, none⟩))) w := by
  subst hA
  unfold szOf at hz
  obtain ⟨inf, hq, hsz⟩ := Option.map_eq_some_iff.1 hz
  simp [execOp, hx, hi, Instr.indexAt, asIntOf, run_underlying (slElem_un hu), h0, h1, sizeOf, typeInfo, hq, hsz, add_plain]
theorem x_load {x : Operand} {t : TypeId} {g o j : Nat} {cs : List Value} {v : Value} (hs : scal P t = true) (hx : ev r x = .pointer (some ⟨g, o + j, none⟩)) (hc : CellsAt w g o cs) (hv : cs[j]? = some v) :
    (execOp (ev r) ⟨dst, .load t x, ty, pos, af, gd⟩).run P w = .ok (.value v) w := by
  have hcell := hc j v hv
  have hagg : (isAgg t).run P w = .ok false w := by
    unfold scal at hs
    cases hq : P.underlying t with
    | none => simp [hq] at hs
    | some d =>
      unfold isAgg
      rw [Sem.run_bind, run_underlying hq w]
      cases d <;> simp_all
  simp [execOp, hx, Instr.loadAt, Instr.sureAddr, loadVar, hagg, hcell]
theorem x_loadA {x : Operand} {t : TypeId} {g o j k : Nat} {cs vs : List Value} (hs : aggSz P t = some k) (hx : ev r x = .pointer (some ⟨g, o + j, none⟩)) (hc : CellsAt w g o cs) (hv : (cs.drop j).take k = vs) (hk : vs.length = k) :
    (execOp (ev r) ⟨dst, .load t x, ty, pos, af, gd⟩).run P w = .ok (.value (.agg vs.toArray)) w := by
  have hl : (loadCells ⟨g, o + j, none⟩ vs.length).run P w = .ok vs.toArray w := by
    refine run_loadCells_list (P := P) w _ vs fun i v hi => ?_
    rw [add_plain, Nat.add_assoc]
    refine hc (j + i) v ?_
    rw [← hv, List.getElem?_take] at hi
    split at hi
    · rwa [List.getElem?_drop] at hi
    · cases hi
  unfold aggSz at hs
  have hagg : (isAgg t).run P w = .ok true w ∧ szOf P t = some k := by
    cases hq : P.underlying t with
    | none => simp [hq] at hs
    | some d =>
      unfold isAgg
      rw [Sem.run_bind, run_underlying hq w]
      unfold szOf
      cases d <;> simp_all
  obtain ⟨hagg, hz⟩ := hagg
  unfold szOf at hz
  obtain ⟨inf, hq, hsz⟩ := Option.map_eq_some_iff.1 hz
  rw [hk] at hl
  simp [execOp, hx, Instr.loadAt, Instr.sureAddr, loadVar, hagg, sizeOf, typeInfo, hq, hsz, hl]
end

def fieldOff (P : Program) (s f : Nat) : Option Nat :=
  match P.underlying s with
  | some (.struct fs) => match fs[f]? with
    | some fl => match szOf P fl.type with
      | some (n + 1) => some fl.offset
      | _ => none
    | none => none
  | _ => none
theorem x_fieldAddr {P : Program} {r : Regs} {w : World} {dst : Option Tmp} {ty : TypeId} {pos : String} {af : Array Edge} {gd : Option (Nat × Bool)} {x : Operand} {s f off g o : Nat} (hf : fieldOff P s f = some off) (hx : ev r x = .pointer (some ⟨g, o, none⟩)) :
    (execOp (ev r) ⟨dst, .fieldAddr s x f, ty, pos, af, gd⟩).run P w = .ok (.value (.pointer (some ⟨g, o + off, none⟩))) w := by
  unfold fieldOff at hf
  split at hf
  · rename_i fs hs
    split at hf
    · rename_i fl hfl
      split at hf
      · rename_i m hm
        simp at hf
        subst hf
        unfold szOf at hm
        obtain ⟨inf, hq, hsz⟩ := Option.map_eq_some_iff.1 hm
        simp [execOp, hx, Instr.fieldAt, Instr.sureAddr, run_underlying hs, hfl, fieldPlace, sizeOf, typeInfo, hq, hsz, add_plain]
      · cases hf
    · cases hf
  · cases hf

/-! ### what changes memory -/
section
variable {P : Program} {ops : Array Oper} {n : Nat} {r : Regs} {ok0 : Nat → Prop} {w0 w : World} {K : Regs → World → Prop} {L : List Ent} {Rs : List RE} {d : Nat} {ty : TypeId} {pos : String} {af : Array Edge} {gd : Option (Nat × Bool)}
theorem Sep.cells {i : Nat} {b t : Nat} {cs : List Value} (H : Sep ok0 w0 w L Rs) (hi : L[i]? = some (.blk b t cs)) : CellsAt w b 0 cs :=
  CellsAt.of_heap (t := t) (fr := (0, 0)) (H.ents i _ hi) fun j v h => by simpa using h
theorem O_box {t : TypeId} {x : Operand} {v : Value} {cs : List Value} (hw : wantedR ops r ⟨some d, .box t x, ty, pos, af, gd⟩ = true) (hn : Nat.blt d n = true) (hx : ev r x = v) (hc : v.cells.toList = cs) (H : Sep ok0 w0 w L Rs)
    (h : ∀ w' b, Sep ok0 w0 w' (L ++ [.blk b t cs]) Rs → K (upd r d (.pointer (some ⟨b, 0, none⟩))) w') : OpR P ops n ⟨some d, .box t x, ty, pos, af, gd⟩ r w K := by
  subst hc
  refine OpR_val hw rfl hn (v := .pointer (some ⟨w.heap.size, 0, none⟩)) (w' := w.alloc (.cells v.cells t)) ?_ (h _ _ ?_)
  · simp [execOp, hx, Instr.box, newVar, newRow]
  · have := H.alloc t v.cells.toList
    simpa using this
theorem O_alloc {t : TypeId} {z : Value} {cs : List Value} (hw : wantedR ops r ⟨some d, .alloc t, ty, pos, af, gd⟩ = true) (hn : Nat.blt d n = true) (hz : zeroOf P t = some z) (hc : z.cells.toList = cs) (H : Sep ok0 w0 w L Rs)
    (h : ∀ w' b, Sep ok0 w0 w' (L ++ [.blk b t cs]) Rs → K (upd r d (.pointer (some ⟨b, 0, none⟩))) w') : OpR P ops n ⟨some d, .alloc t, ty, pos, af, gd⟩ r w K := by
  subst hc
  unfold zeroOf at hz
  obtain ⟨inf, hq, hz'⟩ := Option.bind_eq_some_iff.1 hz
  refine OpR_val hw rfl hn (v := .pointer (some ⟨w.heap.size, 0, none⟩)) (w' := w.alloc (.cells z.cells t)) ?_ (h _ _ ?_)
  · simp [execOp, Instr.alloc, zeroValue, typeInfo, hq, hz', newVar, newRow]
  · have := H.alloc t z.cells.toList
    simpa using this
theorem Sep.setBlk {i : Nat} {b t : Nat} {cs cs' : List Value} (H : Sep ok0 w0 w L Rs) (hi : L[i]? = some (.blk b t cs)) : Sep ok0 w0 (w.setRow b cs'.toArray) (L.set i (.blk b t cs')) Rs := by
  have hh := H.ents i _ hi
  refine H.upd_ (e := .blk b t cs) hi rfl (setRow_heap w b cs.toArray cs'.toArray t (0, 0) hh) (by simp [World.setRow]) rfl rfl rfl fun k hk => ?_
  exact setRow_other w b k cs'.toArray (by simpa [Ent.blks] using hk)
theorem run_storeVar_at {w : World} {b t ty off : Nat} {cs vs : List Value} {v : Value} (hh : w.heap[b]? = some (.cells cs.toArray t (0, 0))) (hv : v.cells.toList = vs) (hz : szOf P ty = some vs.length) (hl : off + vs.length ≤ cs.length) (h1 : ∀ u ∈ vs, u.oneCell' = true) :
    (storeVar ty ⟨b, off, none⟩ v).run P w = .ok () (w.setRow b (cs.take off ++ vs ++ cs.drop (off + vs.length)).toArray) := by
  have hst := run_storeCells_at P b off t vs 0 cs.toArray w hh (by simpa using hl) h1
  unfold szOf at hz
  obtain ⟨inf, hq, hsz⟩ := Option.map_eq_some_iff.1 hz
  have hsz' : v.cells.size = inf.size := by rw [hsz, ← hv]; simp
  simp only [Nat.add_zero] at hst
  simp [storeVar, sizeOf, typeInfo, hq, hsz', hv, hst]
theorem O_store {i : Nat} {b off t t' : Nat} {x y : Operand} {cs vs cs' : List Value} {v : Value} (hw : wantedR ops r ⟨none, .store t x y, ty, pos, af, gd⟩ = true) (hx : ev r x = .pointer (some ⟨b, off, none⟩)) (hy : ev r y = v) (H : Sep ok0 w0 w L Rs)
    (hi : L[i]? = some (.blk b t' cs)) (hv : v.cells.toList = vs) (hz : szOf P t = some vs.length) (hl : Nat.ble (off + vs.length) cs.length = true) (h1 : vs.all Value.oneCell' = true)
    (hc : cs.take off ++ vs ++ cs.drop (off + vs.length) = cs') (h : ∀ w', Sep ok0 w0 w' (L.set i (.blk b t' cs')) Rs → K r w') : OpR P ops n ⟨none, .store t x y, ty, pos, af, gd⟩ r w K := by
  subst hc
  have hrun := run_storeVar_at (P := P) (ty := t) (off := off) (H.ents i _ hi) hv hz (Nat.le_of_ble_eq_true hl) (List.all_eq_true.1 h1)
  refine OpR_unit hw rfl (w' := w.setRow b (cs.take off ++ vs ++ cs.drop (off + vs.length)).toArray) ?_ (h _ (H.setBlk hi))
  simp [execOp, hx, hy, Instr.storeAt, Instr.sureAddr, hrun]
end

/-! ### rows of the call's own -/
section
variable {ok0 : Nat → Prop} {w0 w w' : World} {L : List Ent} {Rs : List RE}
theorem mem_blks_set {L : List Ent} {i : Nat} {e' : Ent} {b : Nat} (h : b ∈ blks (L.set i e')) : (b ∈ e'.blks ∧ i < L.length) ∨ ∃ (j : Nat) (e2 : Ent), j ≠ i ∧ L[j]? = some e2 ∧ b ∈ e2.blks := by
  obtain ⟨j, e2, hj, hb⟩ := of_mem_blks h
  by_cases hij : i = j
  · subst hij
    have hlt : i < L.length := by
      have := (List.getElem?_eq_some_iff.1 hj).1
      simpa using this
    rw [List.getElem?_set_self hlt] at hj
    simp at hj; subst hj
    exact .inl ⟨hb, hlt⟩
  · rw [List.getElem?_set_ne hij] at hj
    exact .inr ⟨j, e2, fun h => hij h.symm, hj, hb⟩
theorem nodup_set {L : List Ent} {i : Nat} {e e' : Ent} (hn : (blks L).Nodup) (hi : L[i]? = some e) (hnd : e'.blks.Nodup) (hnew : ∀ b ∈ e'.blks, b ∈ e.blks ∨ b ∉ blks L) : (blks (L.set i e')).Nodup := by
  induction L generalizing i with
  | nil => simp at hi
  | cons x L ih =>
    simp only [blks, List.nodup_append] at hn
    cases i with
    | zero =>
      simp at hi; subst hi
      show (e'.blks ++ blks L).Nodup
      refine nodup_app hnd hn.2.1 fun b hb hb' => ?_
      rcases hnew b hb' with h | h
      · exact hn.2.2 b h b hb rfl
      · exact h (List.mem_append.2 (.inr hb))
    | succ i =>
      have hi' : L[i]? = some e := by simpa using hi
      show (x.blks ++ blks (L.set i e')).Nodup
      refine nodup_app hn.1 (ih hn.2.1 hi' fun b hb => ?_) fun b hb hb' => ?_
      · rcases hnew b hb with h | h
        · exact .inl h
        · exact .inr fun h' => h (List.mem_append.2 (.inr h'))
      · rcases mem_blks_set hb with ⟨h, _⟩ | ⟨j, e2, hj, he2, h⟩
        · rcases hnew b h with h2 | h2
          · exact hn.2.2 b hb' b (mem_blks hi' h2) rfl
          · exact h2 (List.mem_append.2 (.inl hb'))
        · exact hn.2.2 b hb' b (mem_blks he2 h) rfl
/-- One of the call's own things written anew, in its own memory or in new memory. -/
theorem Sep.grow (h : Sep ok0 w0 w L Rs) {i : Nat} {e e' : Ent} (hi : L[i]? = some e) (hok : e'.ok w') (hsz : w.heap.size ≤ w'.heap.size) (hos : w'.os = w.os) (htp : w'.tape = w.tape) (hout : w'.output = w.output)
    (hb : ∀ k, k < w.heap.size → k ∉ e.blks → w'.heap[k]? = w.heap[k]?) (hnd : e'.blks.Nodup) (hnew : ∀ b ∈ e'.blks, (b ∈ e.blks ∨ w.heap.size ≤ b) ∧ b < w'.heap.size) : Sep ok0 w0 w' (L.set i e') Rs := by
  have hle := h.base.size
  have hnew' : ∀ b ∈ e'.blks, b ∈ e.blks ∨ b ∉ blks L := fun b hb => by
    rcases (hnew b hb).1 with h1 | h1
    · exact .inl h1
    · exact .inr fun h2 => by have := (h.ge b h2).2; omega
  refine h.step ⟨hos.trans h.base.os, htp.trans h.base.tape, hout.trans h.base.output, by omega, fun k hk => (hb k (by omega) fun hk' => by have := (h.ge k (mem_blks hi hk')).1; omega).trans (h.base.block k hk)⟩ hsz ?_ ?_ (nodup_set h.nodup hi hnd hnew') ?_
  · intro j e2 hj
    by_cases hij : i = j
    · subst hij
      have hlt : i < L.length := (List.getElem?_eq_some_iff.1 hi).1
      rw [List.getElem?_set_self hlt] at hj
      simp at hj; subst hj; exact hok
    · rw [List.getElem?_set_ne hij] at hj
      exact Ent.keep (h.ents j e2 hj) fun b hb' => hb b (h.ge b (mem_blks hj hb')).2 fun hb'' => other_blk h.nodup hi hj hij hb'' hb'
  · intro b hb'
    rcases mem_blks_set hb' with ⟨h1, _⟩ | ⟨j, e2, hj, he2, h1⟩
    · have h2 := hnew b h1
      refine ⟨?_, h2.2⟩
      rcases h2.1 with h3 | h3
      · exact (h.ge b (mem_blks hi h3)).1
      · omega
    · have := h.ge b (mem_blks he2 h1); omega
  · intro b hb' hl
    refine ⟨fun hb'' => ?_, hb b hl fun hb'' => hb' (mem_blks hi hb'')⟩
    rcases mem_blks_set hb'' with ⟨h1, _⟩ | ⟨j, e2, hj, he2, h1⟩
    · rcases (hnew b h1).1 with h2 | h2
      · exact hb' (mem_blks hi h2)
      · omega
    · exact hb' (mem_blks he2 h1)
theorem Sep.setR (h : Sep ok0 w0 w L Rs) (j : Nat) {re : RE} (hr : re.rel w (okS ok0 w0 L)) : Sep ok0 w0 w L (Rs.set j re) :=
  ⟨h.base, h.ents, h.ge, h.nodup, fun i re' hi => by
    by_cases hij : j = i
    · subst hij
      have hlt : j < Rs.length := by
        have := (List.getElem?_eq_some_iff.1 hi).1
        simpa using this
      rw [List.getElem?_set_self hlt] at hi
      simp at hi; subst hi; exact hr
    · rw [List.getElem?_set_ne hij] at hi; exact h.rds i re' hi⟩
theorem okS_of_eq {L' : List Ent} (h : ∀ b, b ∈ blks L' → b ∈ blks L ∨ w.heap.size ≤ b) {b : Nat} (hl : b < w.heap.size) (hb : okS ok0 w0 L b) : okS ok0 w0 L' b := by
  refine ⟨fun hb' => ?_, hb.2⟩
  rcases h b hb' with h1 | h1
  · exact hb.1 h1
  · omega
theorem own_form {w : World} {base : Nat} {e : TypeId} {size n : Nat} {v : Value} {xs : List Value} (h : w.ownsRow base e size v n xs) : ∃ A c, v = .slice A n c ∧ (v = .slice none 0 0 ∨ ∃ g, A = some ⟨g, 0, none⟩) := by
  rcases h.2 with ⟨rfl, rfl⟩ | ⟨g, cap, cur, rfl, _⟩
  · exact ⟨none, 0, rfl, .inl rfl⟩
  · exact ⟨_, cap, rfl, .inr ⟨g, rfl⟩⟩
end
section
variable {P : Program} {ops : Array Oper} {n : Nat} {r : Regs} {ok0 : Nat → Prop} {w0 w : World} {K : Regs → World → Prop} {L : List Ent} {Rs : List RE} {d : Nat} {ty : TypeId} {pos : String} {af : Array Edge} {gd : Option (Nat × Bool)}
/-- append(v, x): x lies there, cell by cell. -/
theorem O_append {α : Type} {D : Kd α} {s x : Operand} {t e i j g o c2 c bytes : Nat} {A : Option Addr} {cs news : List Value} {xs ys : List α} {y : α} {z : Value}
    (hw : wantedR ops r ⟨some d, .call { callee := .builtin .append, args := #[s, x], argTypes := #[t, t] }, ty, pos, af, gd⟩ = true) (hn : Nat.blt d n = true)
    (hs : ev r s = .slice A xs.length c) (hx : ev r x = .slice (some ⟨g, o, none⟩) 1 c2) (H : Sep ok0 w0 w L Rs) (hi : L[i]? = some (.row (.slice A xs.length c) e D.sz xs.length cs)) (hj : Rs[j]? = some (RE.chunks D cs xs))
    (hc : CellsAt w g o news) (hr : D.rel w (okS ok0 w0 L) news y) (hys : xs ++ [y] = ys)
    (hu : slElem P t = some e) (hz : szOf P e = some D.sz) (hby : bytesOf P e = some bytes) (hz0 : zeroOf P e = some z) (hzs : z.cells.size = D.sz) (hpos : Nat.blt 0 D.sz = true) (hb : (xs.length + 1) * bytes ≤ 140737488355328) (hb0 : Nat.blt 0 bytes = true)
    (h : ∀ w' A' c' cs', Sep ok0 w0 w' (L.set i (.row (.slice A' ys.length c') e D.sz ys.length cs')) (Rs.set j (RE.chunks D cs' ys)) → K (upd r d (.slice A' ys.length c')) w') :
    OpR P ops n ⟨some d, .call { callee := .builtin .append, args := #[s, x], argTypes := #[t, t] }, ty, pos, af, gd⟩ r w K := by
  unfold szOf at hz; unfold bytesOf at hby; unfold zeroOf at hz0
  obtain ⟨inf, hq, hsz⟩ := Option.map_eq_some_iff.1 hz
  simp only [hq, Option.map_some, Option.some.injEq, Option.bind_some] at hby hz0
  have hrow := H.ents i _ hi
  have hch : Chunks D w (okS ok0 w0 L) cs xs := H.rds j _ hj
  have hlen : xs.length + 1 ≤ 140737488355328 := Nat.le_trans (Nat.le_mul_of_pos_right _ (lt_of_blt hb0)) hb
  obtain ⟨v', w', hrun, hown, hg, _, hat⟩ := run_append_own_at (P := P) w 0 t ty e inf z D.sz bytes (slElem_un hu) hq hz0 hsz hby hzs (lt_of_blt hpos) _ xs.length cs hrow ⟨g, o, none⟩ 1 c2 news (by rw [D.len hr]; omega)
    (fun k u hk => by rw [add_plain]; exact hc k u hk) (D.one hr) (by simp only [maxLen]; omega) hb (Nat.zero_le _)
  obtain ⟨A', c', rfl, hform⟩ := own_form hown
  have hl : xs.length + 1 = ys.length := by subst hys; simp
  rw [hl] at hown hrun
  refine OpR_val hw rfl hn (v := .slice A' ys.length c') (w' := w') ?_ (h w' A' c' (cs ++ news) ?_)
  · simp [execOp, resolve, invoke, builtin, hs, hx, hrun]
  · have hlt : ∀ b, (Value.slice A' ys.length c').ownBlock = some b → b < w'.heap.size := fun b hb => (hown.lt b hb).2
    have hS := H.grow (w' := w') (e' := .row (.slice A' ys.length c') e D.sz ys.length (cs ++ news)) hi hown hg.size hg.os hg.tape hg.output (fun k hk hk' => hg.block k hk (fun he => hk' (by simp [Ent.blks, ← he])))
      (by simp only [Ent.blks]; cases (Value.slice A' ys.length c').ownBlock <;> simp) (fun b hb => by
        simp only [Ent.blks, Option.mem_toList] at hb
        have hb' : (Value.slice A' ys.length c').ownBlock = some b := hb
        refine ⟨?_, hlt b hb'⟩
        rw [← hl] at hb'
        rcases hat with h1 | h1
        · rw [h1] at hb'
          exact .inl (by simp [Ent.blks, hb'])
        · rw [h1] at hb'
          exact .inr (by simp at hb'; omega))
    refine hS.setR j ?_
    have hm : Mov w w' (okS ok0 w0 L) (okS ok0 w0 (L.set i (.row (.slice A' ys.length c') e D.sz ys.length (cs ++ news)))) := ⟨hg.size, fun b hb hlt' => ?_⟩
    · subst hys
      exact (hch.keep hm).snoc (D.keep hr hm)
    · have hnb : b ∉ (Ent.row (.slice A xs.length c) e D.sz xs.length cs).blks := fun hb' => hb.1 (mem_blks hi hb')
      refine ⟨⟨fun hb' => ?_, hb.2⟩, hg.block b hlt' (fun he => hnb (by simp [Ent.blks, ← he]))⟩
      rcases mem_blks_set hb' with ⟨h1, _⟩ | ⟨k, e2, hk, he2, h1⟩
      · simp only [Ent.blks, Option.mem_toList] at h1
        have h1' : (Value.slice A' ys.length c').ownBlock = some b := h1
        rw [← hl] at h1'
        rcases hat with h2 | h2
        · rw [h2] at h1'; exact hnb (by simp [Ent.blks, h1'])
        · rw [h2] at h1'; simp at h1'; omega
      · exact hb.1 (mem_blks he2 h1)
/-- A row of the call's own, read at a place. -/
theorem Sep.rowIdx {α : Type} {D : Kd α} {i j e c : Nat} {A : Option Addr} {cs : List Value} {xs : List α} (H : Sep ok0 w0 w L Rs) (hi : L[i]? = some (.row (.slice A xs.length c) e D.sz xs.length cs)) (hj : Rs[j]? = some (RE.chunks D cs xs)) {m : Int} {x : α} (hx : xs[m.toNat]? = some x) :
    ∃ g ce, A = some ⟨g, 0, none⟩ ∧ D.rel w (okS ok0 w0 L) ce x ∧ CellsAt w g (0 + m.toNat * D.sz) ce := by
  have hrow := H.ents i _ hi
  have hch : Chunks D w (okS ok0 w0 L) cs xs := H.rds j _ hj
  have hlt : m.toNat < xs.length := (List.getElem?_eq_some_iff.1 hx).1
  rcases hrow.2 with ⟨hv, h0⟩ | ⟨g, cap, cur, hv, _, hh, hnc, hcm, hcs, htake⟩
  · omega
  · simp only [Value.slice.injEq] at hv
    obtain ⟨rfl, _, rfl⟩ := hv
    refine ⟨g, _, rfl, hch.at_ _ x hx, ?_⟩
    refine CellsAt.of_heap (cur := cur.toList) (t := e) (fr := (0, 0)) (by simpa using hh) fun k v hk => ?_
    rw [← htake, List.getElem?_take] at hk
    split at hk
    · rw [List.getElem?_drop, List.getElem?_take] at hk
      split at hk
      · rw [← hk]; congr 1; omega
      · cases hk
    · cases hk
theorem Chunks.split {α : Type} {D : Kd α} {w : World} {ok : Nat → Prop} {cs : List Value} {x : α} {xs : List α} (h : Chunks D w ok cs (x :: xs)) : ∃ ce rest, cs = ce ++ rest ∧ ce.length = D.sz ∧ D.rel w ok ce x ∧ Chunks D w ok rest xs :=
  ⟨cs.take D.sz, cs.drop D.sz, (List.take_append_drop _ _).symm, D.len h.1, h.1, h.2⟩
theorem Chunks.join {α : Type} {D : Kd α} {w : World} {ok : Nat → Prop} {ce rest : List Value} {x : α} {xs : List α} (hx : D.rel w ok ce x) (h : Chunks D w ok rest xs) : Chunks D w ok (ce ++ rest) (x :: xs) := by
  have hl := D.len hx
  exact ⟨by rw [List.take_append_of_le_length (by omega), List.take_of_length_le (by omega)]; exact hx, by rw [List.drop_append_of_le_length (by omega), List.drop_eq_nil_of_le (by omega)]; exact h⟩
theorem Chunks.put {α : Type} {D : Kd α} {w : World} {ok : Nat → Prop} {off : Nat} {vs : List Value} {a b : α} (hle : off + vs.length ≤ D.sz) (hrel : ∀ ce, D.rel w ok ce a → D.rel w ok (ce.take off ++ vs ++ ce.drop (off + vs.length)) b) :
    ∀ (m : Nat) (cs : List Value) (xs : List α), Chunks D w ok cs xs → xs[m]? = some a → Chunks D w ok (cs.take (m * D.sz + off) ++ vs ++ cs.drop (m * D.sz + off + vs.length)) (xs.set m b)
  | m, cs, [], _, hm => by simp at hm
  | 0, cs, x :: xs, h, hm => by
    obtain ⟨ce, rest, rfl, hl, hx, h2⟩ := h.split
    simp at hm; subst hm
    have := Chunks.join (hrel ce hx) h2
    rw [List.set_cons_zero, Nat.zero_mul, Nat.zero_add, List.take_append_of_le_length (by omega), List.drop_append_of_le_length (by omega)]
    simpa [List.append_assoc] using this
  | m + 1, cs, x :: xs, h, hm => by
    obtain ⟨ce, rest, rfl, hl, hx, h2⟩ := h.split
    have ih := Chunks.put hle hrel m rest xs h2 (by simpa using hm)
    have := Chunks.join hx ih
    have e1 : (m + 1) * D.sz + off = ce.length + (m * D.sz + off) := by rw [hl, Nat.add_mul]; omega
    have e2 : (m + 1) * D.sz + off + vs.length = ce.length + (m * D.sz + off + vs.length) := by rw [hl, Nat.add_mul]; omega
    rw [List.set_cons_succ, e2, e1, List.take_length_add_append, List.drop_length_add_append]
    simpa [List.append_assoc] using this
/-- One element of a row of the call's own written, or a part of it. -/
theorem O_storeRow {α : Type} {D : Kd α} {i j e c t off : Nat} {x y : Operand} {A : Option Addr} {cs vs : List Value} {xs ys : List α} {m : Int} {g : Nat} {a b : α} {v : Value}
    (hw : wantedR ops r ⟨none, .store t x y, ty, pos, af, gd⟩ = true) (H : Sep ok0 w0 w L Rs) (hi : L[i]? = some (.row (.slice A xs.length c) e D.sz xs.length cs)) (hj : Rs[j]? = some (RE.chunks D cs xs))
    (hA : A = some ⟨g, 0, none⟩) (hx : ev r x = .pointer (some ⟨g, 0 + m.toNat * D.sz + off, none⟩)) (hy : ev r y = v) (hm : xs[m.toNat]? = some a) (hv : v.cells.toList = vs) (hz : szOf P t = some vs.length)
    (hl : Nat.ble (off + vs.length) D.sz = true) (h1 : vs.all Value.oneCell' = true) (hrel : ∀ ce, D.rel w (okS ok0 w0 L) ce a → D.rel w (okS ok0 w0 L) (ce.take off ++ vs ++ ce.drop (off + vs.length)) b) (hys : xs.set m.toNat b = ys)
    (h : ∀ w' cs', Sep ok0 w0 w' (L.set i (.row (.slice A ys.length c) e D.sz ys.length cs')) (Rs.set j (RE.chunks D cs' ys)) → K r w') : OpR P ops n ⟨none, .store t x y, ty, pos, af, gd⟩ r w K := by
  have hrow := H.ents i _ hi
  have hch : Chunks D w (okS ok0 w0 L) cs xs := H.rds j _ hj
  have hlt : m.toNat < xs.length := (List.getElem?_eq_some_iff.1 hm).1
  have hle := Nat.le_of_ble_eq_true hl
  have hmul : m.toNat * D.sz + D.sz ≤ xs.length * D.sz := by
    have := Nat.mul_le_mul_right D.sz (show m.toNat + 1 ≤ xs.length by omega)
    rwa [Nat.add_mul, Nat.one_mul] at this
  rcases hrow.2 with ⟨hv0, h0⟩ | ⟨g', cap, cur, hv0, hge, hh, hnc, hcm, hcs, htake⟩
  · omega
  · simp only [Value.slice.injEq] at hv0
    obtain ⟨rfl, _, rfl⟩ := hv0
    simp only [Option.some.injEq, Addr.mk.injEq, and_true] at hA
    subst hA
    have hcap : xs.length * D.sz ≤ c * D.sz := Nat.mul_le_mul_right _ hnc
    have hcl : cs.length = xs.length * D.sz := hrow.1
    rw [Nat.zero_add] at hx
    have hrun := run_storeVar_at (P := P) (w := w) (b := g') (t := e) (ty := t) (off := m.toNat * D.sz + off) (cs := cur.toList) (by simpa using hh) hv hz (by simp; omega) (List.all_eq_true.1 h1)
    have hyl : ys.length = xs.length := by subst hys; simp
    have hput := Chunks.put hle hrel m.toNat cs xs hch hm
    rw [hys] at hput
    have hcs2 : cur.toList.take (m.toNat * D.sz + off) ++ vs ++ cur.toList.drop (m.toNat * D.sz + off + vs.length) = (cur.toList.take (m.toNat * D.sz + off) ++ vs ++ cur.toList.drop (m.toNat * D.sz + off + vs.length)) := rfl
    refine OpR_unit hw rfl (w' := w.setRow g' (cur.toList.take (m.toNat * D.sz + off) ++ vs ++ cur.toList.drop (m.toNat * D.sz + off + vs.length)).toArray) ?_ (h _ (cs.take (m.toNat * D.sz + off) ++ vs ++ cs.drop (m.toNat * D.sz + off + vs.length)) ?_)
    · simp [execOp, hx, hy, Instr.storeAt, Instr.sureAddr, hrun]
    · have hS := H.upd_ (w' := w.setRow g' (cur.toList.take (m.toNat * D.sz + off) ++ vs ++ cur.toList.drop (m.toNat * D.sz + off + vs.length)).toArray) (e' := .row (.slice (some ⟨g', 0, none⟩) ys.length c) e D.sz ys.length (cs.take (m.toNat * D.sz + off) ++ vs ++ cs.drop (m.toNat * D.sz + off + vs.length))) hi rfl
        ⟨by rw [hput.len], .inr ⟨g', c, _, rfl, hge, setRow_heap w g' cur _ e (0, 0) hh, by omega, hcm, by simp; omega, ?_⟩⟩ (by simp [World.setRow]) rfl rfl rfl fun k hk => setRow_other w g' k _ (by simpa [Ent.blks, Value.ownBlock] using hk)
      · refine hS.setR j ?_
        refine (RE.chunks D _ _).keep (w := w) (ok := okS ok0 w0 L) hput ⟨by simp [World.setRow], fun b hb hlt' => ⟨⟨?_, hb.2⟩, setRow_other w g' b _ fun he => hb.1 (mem_blks hi (by simp [Ent.blks, Value.ownBlock, he]))⟩⟩
        rw [blks_set (e := .row (.slice (some ⟨g', 0, none⟩) xs.length c) e D.sz xs.length cs) hi (by rfl)]; exact hb.1
      · rw [hyl, ← htake]
        have hcur : (cur.toList.take (xs.length * D.sz)).length = xs.length * D.sz := by simp; omega
        simp only [List.toList_toArray] at *
        rw [List.take_append, List.take_append, List.take_take, List.take_take, List.drop_take]
        simp only [List.length_append, List.length_take, Array.length_toList]
        rw [show min (xs.length * D.sz) (m.toNat * D.sz + off) = m.toNat * D.sz + off by omega, show min (m.toNat * D.sz + off) (xs.length * D.sz) = m.toNat * D.sz + off by omega,
          show min (m.toNat * D.sz + off) cur.size = m.toNat * D.sz + off by omega, List.take_of_length_le (l := vs) (by omega),
          show xs.length * D.sz - (m.toNat * D.sz + off + vs.length) = xs.length * D.sz - (m.toNat * D.sz + off + vs.length) from rfl]
end
end Go.Proofs.YtobkigllalbkiaaV
