/- A function's body, entered and left; models' words. Nothing here names a program. -/
import Derived.Test.YtobkigllalbkiaaVOps
set_option linter.unusedVariables false
set_option linter.unusedSimpArgs false
namespace Go.Proofs.YtobkigllalbkiaaV
open Go.RowKit

def tup : List Value → Value
  | [v] => v
  | vs => .tuple vs.toArray
def ResV (P : Program) (r : Regs) (w : World) : List ResultVar → List Value → Prop
  | [], vs => vs = []
  | .tmp t :: rs, vs => ∃ v vs', vs = v :: vs' ∧ r t = v ∧ ResV P r w rs vs'
  | .cell a t :: rs, vs => ∃ v vs' ad, vs = v :: vs' ∧ r a = .pointer (some ad) ∧ (loadVar t ad).run P w = .ok v w ∧ ResV P r w rs vs'
theorem ResV.tmp {P : Program} {r : Regs} {w : World} {t : Tmp} {rs : List ResultVar} {v : Value} {vs : List Value} (h : r t = v) (hr : ResV P r w rs vs) : ResV P r w (.tmp t :: rs) (v :: vs) := ⟨v, vs, rfl, h, hr⟩
theorem loadVar_scal {P : Program} {w : World} {t : TypeId} {g o j : Nat} {cs : List Value} {v : Value} (hs : scal P t = true) (hc : CellsAt w g o cs) (hv : cs[j]? = some v) : (loadVar t ⟨g, o + j, none⟩).run P w = .ok v w := by
  have := x_load (P := P) (r := fun _ => .pointer (some ⟨g, o + j, none⟩)) (w := w) (dst := none) (ty := 0) (pos := "") (af := #[]) (gd := none) (x := .tmp 0) hs rfl hc hv
  simp only [execOp, ev, Instr.loadAt, Instr.sureAddr, Sem.run_bind, Sem.run_pure, Result.andThen_ok] at this
  cases hq : (loadVar t ⟨g, o + j, none⟩).run P w with
  | ok u w' => rw [hq] at this; simp at this; obtain ⟨rfl, rfl⟩ := this; rfl
  | halt h w' => rw [hq] at this; simp at this
theorem loadVar_agg {P : Program} {w : World} {t : TypeId} {g o j k : Nat} {cs vs : List Value} (hs : aggSz P t = some k) (hc : CellsAt w g o cs) (hv : (cs.drop j).take k = vs) (hk : vs.length = k) : (loadVar t ⟨g, o + j, none⟩).run P w = .ok (.agg vs.toArray) w := by
  have := x_loadA (P := P) (r := fun _ => .pointer (some ⟨g, o + j, none⟩)) (w := w) (dst := none) (ty := 0) (pos := "") (af := #[]) (gd := none) (x := .tmp 0) hs rfl hc hv hk
  simp only [execOp, ev, Instr.loadAt, Instr.sureAddr, Sem.run_bind, Sem.run_pure, Result.andThen_ok] at this
  cases hq : (loadVar t ⟨g, o + j, none⟩).run P w with
  | ok u w' => rw [hq] at this; simp at this; obtain ⟨rfl, rfl⟩ := this; rfl
  | halt h w' => rw [hq] at this; simp at this
theorem ResV.cellA {P : Program} {r : Regs} {w : World} {a : Tmp} {t : TypeId} {b k : Nat} {cs : List Value} {rs : List ResultVar} {vs : List Value} (hr : r a = .pointer (some ⟨b, 0, none⟩)) (hs : aggSz P t = some k) (hc : CellsAt w b 0 cs) (hk : cs.length = k)
    (h : ResV P r w rs vs) : ResV P r w (.cell a t :: rs) (.agg cs.toArray :: vs) :=
  ⟨_, vs, _, rfl, hr, loadVar_agg (j := 0) hs hc (by rw [List.drop_zero, ← hk, List.take_length]) hk, h⟩
theorem ResV.cellS {P : Program} {r : Regs} {w : World} {a : Tmp} {t : TypeId} {b : Nat} {v : Value} {rs : List ResultVar} {vs : List Value} (hr : r a = .pointer (some ⟨b, 0, none⟩)) (hs : scal P t = true) (hc : CellsAt w b 0 [v])
    (h : ResV P r w rs vs) : ResV P r w (.cell a t :: rs) (v :: vs) :=
  ⟨_, vs, _, rfl, hr, loadVar_scal (j := 0) hs hc rfl, h⟩
def resAt (r : Regs) (v : ResultVar) : Sem Value :=
  match v with
  | .tmp t => pure (r t)
  | .cell a t => do loadVar t (← asAddr (r a))
theorem run_resAt {P : Program} {r : Regs} {w : World} : ∀ {rs : List ResultVar} {vs : List Value}, ResV P r w rs vs → (rs.mapM (resAt r)).run P w = .ok vs w
  | [], vs, h => by have : vs = [] := h; subst this; rfl
  | .tmp t :: rs, vs, h => by
    obtain ⟨v, vs', rfl, rfl, h'⟩ := h
    rw [List.mapM_cons]
    simp [resAt, run_resAt h']
  | .cell a t :: rs, vs, h => by
    obtain ⟨v, vs', ad, rfl, hr, hl, h'⟩ := h
    rw [List.mapM_cons]
    simp [resAt, hr, asAddr, hl, run_resAt h']
theorem run_results {P : Program} {n : Nat} {r : Regs} {a : Act} {w : World} {fn : Func} {vs : List Value} (ha : Fr n r a) (h : ResV P r w fn.results.toList vs) : (results fn a.tmps).run P w = .ok (tup vs) w := by
  have h1 : (fn.results.mapM (resAt r)).run P w = .ok vs.toArray w := by
    have hm : fn.results.mapM (resAt r) = List.toArray <$> fn.results.toList.mapM (resAt r) := by
      rw [Array.mapM_eq_mapM_toList]
    rw [hm, Sem.run_map, run_resAt h]
    rfl
  have key : ∀ F : ResultVar → Sem Value, (∀ x, F x = resAt r x) → (fn.results.mapM F).run P w = .ok vs.toArray w := fun F hF => by rw [funext hF]; exact h1
  unfold results
  rw [Sem.run_bind, key _ (fun x => by cases x <;> simp only [resAt, ha.get])]
  simp only [Result.andThen_ok]
  match vs with
  | [] => rfl
  | [v] => rfl
  | v :: u :: l => rfl
def retP (P : Program) (rs : Array ResultVar) (R : Ending → World → Prop) : Post
  | .normal, r, w => ∃ vs, ResV P r w rs.toList vs ∧ R (.returned (tup vs)) w
  | .ret, r, w => ∃ vs, ResV P r w rs.toList vs ∧ R (.returned (tup vs)) w
  | _, _, _ => False
theorem calls_W {P : Program} {f n : Nat} {fn : Func} {c : Code} {args : List Value} {w : World} {R : Ending → World → Prop} (hf : P.funcs[f]? = some fn) (hb : fn.body = some c) (hn : fn.ntmps = n) {rs : Array ResultVar} (hres : fn.results = rs) (hsz : Nat.ble args.length n = true)
    (h : ∀ r, (∀ (i : Nat) (v : Value), args[i]? = some v → r i = v) → W P n c (retP P rs R) r w) : Calls P f args.toArray w R := by
  subst hres
  refine calls_of_wp hf hb ?_
  have hle := Nat.le_of_ble_eq_true hsz
  have hfr : Fr n (fun i => (args.toArray ++ Array.replicate (fn.ntmps - args.toArray.size) undef).getD i undef) { tmps := args.toArray ++ Array.replicate (fn.ntmps - args.toArray.size) undef, defers := [] } :=
    ⟨by simp [hn]; omega, rfl, fun _ => rfl⟩
  refine wp_mono (h _ (fun i v hv => ?_) _ hfr) fun e a w q => ?_
  · have hlt : i < args.length := (List.getElem?_eq_some_iff.1 hv).1
    have : (args.toArray ++ Array.replicate (fn.ntmps - args.toArray.size) undef)[i]? = some v := by
      rw [Array.getElem?_append_left (by simpa using hlt)]
      simpa using hv
    rw [Array.getD_eq_getD_getElem?, this]
    rfl
  · cases e with
    | panic c => exact q.elim
    | outgrown => exact q.elim
    | normal => obtain ⟨r, hr, vs, hv, hR⟩ := q; exact ⟨hr.defers, _, run_results hr hv, hR⟩
    | ret => obtain ⟨r, hr, vs, hv, hR⟩ := q; exact ⟨hr.defers, _, run_results hr hv, hR⟩
    | exit id => obtain ⟨r, hr, hq⟩ := q; exact hq.elim
    | goto l => obtain ⟨r, hr, hq⟩ := q; exact hq.elim

/-! ### models -/
def ck {α : Type} (x : Int) (k : Int → Option α) : Option α := if -9223372036854775808 ≤ x ∧ x ≤ 9223372036854775807 then k x else none
theorem wrap_i64_in {x : Int} (h : -9223372036854775808 ≤ x ∧ x ≤ 9223372036854775807) : IntKind.i64.wrap x = x := IntWalk.i64_in x h
theorem ck_some {α : Type} {x : Int} {k : Int → Option α} {res : α} (h : ck x k = some res) : ∃ c, c = x ∧ (-9223372036854775808 ≤ c ∧ c ≤ 9223372036854775807) ∧ IntKind.i64.wrap x = c ∧ k c = some res := by
  unfold ck at h
  split at h
  · rename_i hx; exact ⟨x, rfl, hx, wrap_i64_in hx, h⟩
  · cases h
def idx {α β : Type} (l : List α) (i : Int) (k : α → Option β) : Option β := if 0 ≤ i then (l[i.toNat]?).bind k else none
theorem idx_some {α β : Type} {l : List α} {i : Int} {k : α → Option β} {res : β} (h : idx l i k = some res) : ∃ x, 0 ≤ i ∧ i < (l.length : Int) ∧ l[i.toNat]? = some x ∧ k x = some res := by
  unfold idx at h
  split at h
  · rename_i h0
    obtain ⟨x, hx, hk⟩ := Option.bind_eq_some_iff.1 h
    have := (List.getElem?_eq_some_iff.1 hx).1
    exact ⟨x, h0, by omega, hx, hk⟩
  · cases h
def nz {α : Type} (b : Int) (k : Option α) : Option α := if b ≠ 0 then k else none
theorem nz_some {α : Type} {b : Int} {k : Option α} {res : α} (h : nz b k = some res) : b ≠ 0 ∧ k = some res := by
  unfold nz at h
  split at h
  · rename_i hb; exact ⟨hb, h⟩
  · cases h
theorem cond_t {α : Type} {b : Bool} {x y : Option α} {res : α} (hb : b = true) (h : (bif b then x else y) = some res) : x = some res := by subst hb; exact h
theorem cond_f {α : Type} {b : Bool} {x y : Option α} {res : α} (hb : b = false) (h : (bif b then x else y) = some res) : y = some res := by subst hb; exact h
theorem bind_some {α β : Type} {x : Option α} {k : α → Option β} {res : β} (h : x.bind k = some res) : ∃ y, x = some y ∧ k y = some res := Option.bind_eq_some_iff.1 h

theorem none_some {α : Type} {res : α} (h : (none : Option α) = some res) : False := by cases h
def apd {α β : Type} (bytes : Nat) (l : List α) (x : α) (k : List α → Option β) : Option β := if (l.length + 1) * bytes ≤ 140737488355328 then k (l ++ [x]) else none
theorem apd_some {α β : Type} {bytes : Nat} {l : List α} {x : α} {k : List α → Option β} {res : β} (h : apd bytes l x k = some res) : ∃ ys, l ++ [x] = ys ∧ (l.length + 1) * bytes ≤ 140737488355328 ∧ k ys = some res := by
  unfold apd at h
  split at h
  · rename_i hb; exact ⟨_, rfl, hb, h⟩
  · cases h

def apds {α β : Type} (bytes : Nat) (l m : List α) (k : List α → Option β) : Option β := if (l.length + m.length) * bytes ≤ 140737488355328 then k (l ++ m) else none
theorem apds_some {α β : Type} {bytes : Nat} {l m : List α} {k : List α → Option β} {res : β} (h : apds bytes l m k = some res) : ∃ ys, l ++ m = ys ∧ (l.length + m.length) * bytes ≤ 140737488355328 ∧ k ys = some res := by
  unfold apds at h
  split at h
  · rename_i hb; exact ⟨_, rfl, hb, h⟩
  · cases h

def ge0 {α : Type} (b : Int) (k : Option α) : Option α := if 0 ≤ b then k else none
theorem ge0_some {α : Type} {b : Int} {k : Option α} {res : α} (h : ge0 b k = some res) : 0 ≤ b ∧ k = some res := by
  unfold ge0 at h
  split at h
  · rename_i hb; exact ⟨hb, h⟩
  · cases h
def shlV (k : IntKind) (a b : Int) : Int := k.wrap (a * 2 ^ min b.toNat k.bits)
theorem x_shl {P : Program} {r : Regs} {w : World} {dst : Option Tmp} {ty : TypeId} {pos : String} {af : Array Edge} {gd : Option (Nat × Bool)} {x y : Operand} {k k' : IntKind} {a b : Int} {t : TypeId} {t' : TypeId} (hx : ev r x = .int k a) (hy : ev r y = .int k' b) (hb : 0 ≤ b) :
    (execOp (ev r) ⟨dst, .binOp .shl t x y t', ty, pos, af, gd⟩).run P w = .ok (.value (.int k (shlV k a b))) w := by
  simp [execOp, hx, hy, eqGuard, binOp, Op.shift, shlV, Int.not_lt.2 hb]

def lete {α β : Type} (x : α) (k : α → Option β) : Option β := k x
theorem lete_some {α β : Type} {x : α} {k : α → Option β} {res : β} (h : lete x k = some res) : ∃ y, x = y ∧ k y = some res := ⟨x, rfl, h⟩
theorem W_regen {P : Program} {n : Nat} {Q : Post} {r : Regs} {w : World} {c : Code} {l : List (Nat × Value)} (h : Agr l r) (k : ∀ r1, W P n c Q (updL l r1) w) : W P n c Q r w := by
  obtain ⟨r1, rfl⟩ := regen l h
  exact k r1

def andV (k : IntKind) (a b : Int) : Int := k.wrap (BitVec.ofInt k.bits a &&& BitVec.ofInt k.bits b).toNat
theorem x_and {P : Program} {r : Regs} {w : World} {dst : Option Tmp} {ty : TypeId} {pos : String} {af : Array Edge} {gd : Option (Nat × Bool)} {x y : Operand} {k : IntKind} {a b c : Int} {t : TypeId} {t' : TypeId} (hx : ev r x = .int k a) (hy : ev r y = .int k b) (hc : andV k a b = c) :
    (execOp (ev r) ⟨dst, .binOp .and t x y t', ty, pos, af, gd⟩).run P w = .ok (.value (.int k c)) w := by
  subst hc
  simp [execOp, hx, hy, eqGuard, binOp, Op.intBits, andV]
def shrV (_k : IntKind) (a b : Int) : Int := a.fdiv (2 ^ min b.toNat _k.bits)
theorem x_shr {P : Program} {r : Regs} {w : World} {dst : Option Tmp} {ty : TypeId} {pos : String} {af : Array Edge} {gd : Option (Nat × Bool)} {x y : Operand} {k k' : IntKind} {a b c : Int} {t : TypeId} {t' : TypeId} (hx : ev r x = .int k a) (hy : ev r y = .int k' b) (hb : 0 ≤ b) (hc : shrV k a b = c) :
    (execOp (ev r) ⟨dst, .binOp .shr t x y t', ty, pos, af, gd⟩).run P w = .ok (.value (.int k c)) w := by
  subst hc
  simp [execOp, hx, hy, eqGuard, binOp, Op.shift, shrV, Int.not_lt.2 hb]
def mks {α β : Type} (bytes : Nat) (n : Int) (z : α) (k : List α → Option β) : Option β := if 0 ≤ n ∧ n * bytes ≤ 140737488355328 then k (List.replicate n.toNat z) else none
theorem mks_some {α β : Type} {bytes : Nat} {n : Int} {z : α} {k : List α → Option β} {res : β} (h : mks bytes n z k = some res) : ∃ ys, 0 ≤ n ∧ List.replicate n.toNat z = ys ∧ n * bytes ≤ 140737488355328 ∧ k ys = some res := by
  unfold mks at h
  split at h
  · rename_i hb; exact ⟨_, hb.1, rfl, hb.2, h⟩
  · cases h

def slg {α : Type} (a b : Int) (k : Option α) : Option α := if 0 ≤ a ∧ a ≤ b then k else none
theorem slg_some {α : Type} {a b : Int} {k : Option α} {res : α} (h : slg a b k = some res) : 0 ≤ a ∧ a ≤ b ∧ k = some res := by
  unfold slg at h
  split at h
  · rename_i hb; exact ⟨hb.1, hb.2, h⟩
  · cases h

/-! ### kinds -/
def Kd.flat {α : Type} (n : Nat) (enc : α → List Value) (hl : ∀ x, (enc x).length = n) (h1 : ∀ x, ∀ v ∈ enc x, v.oneCell' = true) : Kd α where
  sz := n
  rel := fun _ _ cs x => cs = enc x
  len := fun h => by rw [h]; exact hl _
  one := fun h => by rw [h]; exact h1 _
  keep := fun h _ => h
def kInt : Kd Int := Kd.flat 1 (fun x => [.int .i64 x]) (fun _ => rfl) (fun x v hv => by simp at hv; subst hv; rfl)
def kBool : Kd Bool := Kd.flat 1 (fun x => [.bool x]) (fun _ => rfl) (fun x v hv => by simp at hv; subst hv; rfl)
theorem Rd.idx {α : Type} {K : Kd α} {w : World} {ok : Nat → Prop} {A : Option Addr} {c : Nat} {xs : List α} (h : Rd K w ok A c xs) {i : Int} {x : α} (hx : xs[i.toNat]? = some x) :
    ∃ g o cs, A = some ⟨g, o, none⟩ ∧ K.rel w ok cs x ∧ ok g ∧ g < w.heap.size ∧ CellsAt w g (o + i.toNat * K.sz) cs := by
  have hne : xs ≠ [] := by rintro rfl; simp at hx
  obtain ⟨g, o, hA, hg, hlt, hc⟩ := h.2.2 hne
  obtain ⟨cs, hk, hat⟩ := hc _ x hx
  exact ⟨g, o, cs, hA, hk, hg, hlt, hat⟩
theorem Rd.flatAt {α : Type} {n : Nat} {enc : α → List Value} {hl : ∀ x, (enc x).length = n} {h1 : ∀ x, ∀ v ∈ enc x, v.oneCell' = true} {w : World} {ok : Nat → Prop} {A : Option Addr} {c : Nat} {xs : List α} (h : Rd (Kd.flat n enc hl h1) w ok A c xs)
    {g o : Nat} (hA : A = some ⟨g, o, none⟩) {j : Nat} {x : α} (hx : xs[j]? = some x) : CellsAt w g (o + j * n) (enc x) := by
  have hne : xs ≠ [] := by rintro rfl; simp at hx
  obtain ⟨g', o', hA', hg, hlt, hc⟩ := h.2.2 hne
  rw [hA] at hA'
  simp only [Option.some.injEq, Addr.mk.injEq, and_true] at hA'
  obtain ⟨rfl, rfl⟩ := hA'
  obtain ⟨cs, hk, hat⟩ := hc _ x hx
  have : cs = enc x := hk
  subst this
  exact hat
/-- Where a slice that may be read, and is not empty, begins. -/
theorem Rd.addr {α : Type} {K : Kd α} {w : World} {ok : Nat → Prop} {A : Option Addr} {c : Nat} {xs : List α} (h : Rd K w ok A c xs) {j : Nat} {x : α} (hx : xs[j]? = some x) : ∃ g o, A = some ⟨g, o, none⟩ := by
  have hne : xs ≠ [] := by rintro rfl; simp at hx
  obtain ⟨g, o, hA, _⟩ := h.2.2 hne
  exact ⟨g, o, hA⟩
/-- Elements that are slices. -/
def Kd.slice {α : Type} (K : Kd α) : Kd (List α) where
  sz := 1
  rel := fun w ok cs x => ∃ A c, cs = [.slice A x.length c] ∧ Rd K w ok A c x
  len := by rintro w ok cs x ⟨A, c, rfl, _⟩; rfl
  one := by
    rintro w ok cs x ⟨A, c, rfl, _⟩ v hv
    simp at hv; subst hv; rfl
  keep := by rintro w w' ok ok' cs x ⟨A, c, rfl, h⟩ hm; exact ⟨A, c, rfl, h.keep hm⟩
section
variable {P : Program} {ops : Array Oper} {n : Nat} {r : Regs} {w : World} {M : Regs → World → Prop}
/-- A call: the contract, then what follows. -/
theorem O_call {K : Regs → World → Prop} {o : Oper} {d : Nat} {f : FuncId} {args : Array Value} {R : Ending → World → Prop} (hw : wantedR ops r o = true) (hd : o.dst = some d) (hn : Nat.blt d n = true)
    (hrun : (execOp (ev r) o).run P w = .ok (.enter f args) w) (hc : Calls P f args w R) (h : ∀ e w', R e w' → ∃ v, e = .returned v ∧ K (upd r d v) w') : OpR P ops n o r w K := OpR_call hw hd hn hrun hc h
section plans
variable {S : World → Prop} {p : List Mv}
theorem PR_nil (h : M r w) : PR P ops n S [] M r w := h
theorem PR_take {i d : Nat} {o : Oper} {v : Value} (ho : ops[i]? = some o) (hd : o.dst = some d) (hn : Nat.blt d n = true) (hw : wantedR ops r o = true) (hrun : ∀ w', S w' → (execOp (ev r) o).run P w' = .ok (.value v) w')
    (h : PR P ops n S p M (upd r d v) w) : PR P ops n S (.take i :: p) M r w := ⟨o, d, v, ho, hd, hn, .inl ⟨hw, hrun⟩, h⟩
theorem PR_off {i d : Nat} {o : Oper} (ho : ops[i]? = some o) (hd : o.dst = some d) (hn : Nat.blt d n = true) (hw : wantedR ops r o = false)
    (h : PR P ops n S p M (upd r d undef) w) : PR P ops n S (.take i :: p) M r w := ⟨o, d, undef, ho, hd, hn, .inr ⟨hw, rfl⟩, h⟩
theorem PR_free {i d : Nat} {o : Oper} {v : Value} (ho : ops[i]? = some o) (hd : o.dst = some d) (hn : Nat.blt d n = true) (hw : wantedR ops r o = true) (hrun : ∀ w', (execOp (ev r) o).run P w' = .ok (.value v) w')
    (h : PR P ops n S p M (upd r d v) w) : PR P ops n S (.free i :: p) M r w := ⟨o, d, v, ho, hd, hn, .inl ⟨hw, fun w' _ => hrun w'⟩, h⟩
theorem PR_offF {i d : Nat} {o : Oper} (ho : ops[i]? = some o) (hd : o.dst = some d) (hn : Nat.blt d n = true) (hw : wantedR ops r o = false)
    (h : PR P ops n S p M (upd r d undef) w) : PR P ops n S (.free i :: p) M r w := ⟨o, d, undef, ho, hd, hn, .inr ⟨hw, rfl⟩, h⟩
theorem PR_run {i : Nat} {o : Oper} (ho : ops[i]? = some o) (h : OpR P ops n o r w fun r' w' => S w' ∧ PR P ops n S p M r' w') : PR P ops n S (.run i :: p) M r w := ⟨o, ho, h⟩
theorem PR_tail {i : Nat} {o : Oper} (ho : ops[i]? = some o) (h : OpR P ops n o r w fun r' w' => PR P ops n S p M r' w') : PR P ops n S (.tail i :: p) M r w := ⟨o, ho, h⟩
theorem PR_mono {M' : Regs → World → Prop} (hm : ∀ r w, M r w → M' r w) : ∀ (p : List Mv) (r : Regs) (w : World), PR P ops n S p M r w → PR P ops n S p M' r w
  | [], _, _, h => hm _ _ h
  | .take _ :: p, _, _, ⟨o, d, v, h1, h2, h3, h4, h5⟩ => ⟨o, d, v, h1, h2, h3, h4, PR_mono hm p _ _ h5⟩
  | .free _ :: p, _, _, ⟨o, d, v, h1, h2, h3, h4, h5⟩ => ⟨o, d, v, h1, h2, h3, h4, PR_mono hm p _ _ h5⟩
  | .run _ :: p, _, _, ⟨o, h1, h2⟩ => ⟨o, h1, OpR_mono h2 fun r w h => ⟨h.1, PR_mono hm p _ _ h.2⟩⟩
  | .tail _ :: p, _, _, ⟨o, h1, h2⟩ => ⟨o, h1, OpR_mono h2 fun r w h => PR_mono hm p _ _ h⟩
theorem PR_app {q : List Mv} : ∀ (p : List Mv) (r : Regs) (w : World), PR P ops n S p (PR P ops n S q M) r w → PR P ops n S (p ++ q) M r w
  | [], _, _, h => h
  | .take _ :: p, _, _, ⟨o, d, v, h1, h2, h3, h4, h5⟩ => ⟨o, d, v, h1, h2, h3, h4, PR_app p _ _ h5⟩
  | .free _ :: p, _, _, ⟨o, d, v, h1, h2, h3, h4, h5⟩ => ⟨o, d, v, h1, h2, h3, h4, PR_app p _ _ h5⟩
  | .run _ :: p, _, _, ⟨o, h1, h2⟩ => ⟨o, h1, OpR_mono h2 fun r w h => ⟨h.1, PR_app p _ _ h.2⟩⟩
  | .tail _ :: p, _, _, ⟨o, h1, h2⟩ => ⟨o, h1, OpR_mono h2 fun r w h => PR_app p _ _ h⟩
theorem PR_cut (k : Nat) (M1 : Regs → World → Prop) (h : PR P ops n S (p.take k) M1 r w) (h2 : ∀ r w, M1 r w → PR P ops n S (p.drop k) M r w) : PR P ops n S p M r w := by
  have := PR_app (M := M) (q := p.drop k) (p.take k) r w (PR_mono h2 _ _ _ h)
  rwa [List.take_append_drop] at this
end plans
theorem RL_val {o : Oper} {rest : List Oper} {d : Nat} {v : Value} {w' : World} (hw : wantedR ops r o = true) (hd : o.dst = some d) (hn : Nat.blt d n = true)
    (hrun : (execOp (ev r) o).run P w = .ok (.value v) w') (h : RL P ops n rest M (upd r d v) w') : RL P ops n (o :: rest) M r w := OpR_val hw hd hn hrun h
theorem RL_pure {o : Oper} {rest : List Oper} {d : Nat} {v : Value} (hw : wantedR ops r o = true) (hd : o.dst = some d) (hn : Nat.blt d n = true)
    (hrun : (execOp (ev r) o).run P w = .ok (.value v) w) (h : RL P ops n rest M (upd r d v) w) : RL P ops n (o :: rest) M r w := OpR_val hw hd hn hrun h
end
/-- A call of a function with a body comes in. -/
theorem run_enter {P : Program} {f : FuncId} {fn : Func} {c : Code} (hf : P.funcs[f]? = some fn) (hb : fn.body = some c) (hname : (fn.name == "runtime.NumGoroutine") = false) (args : Array Value) (w : World) :
    (callFunc f args).run P w = .ok (.enter f args) w := by
  have h1 : ¬ fn.name = "runtime.NumGoroutine" := by simpa using hname
  simp [callFunc, hf, h1, hb]
end Go.Proofs.YtobkigllalbkiaaV
