/- Part 2 of the texts that the proof of NodesTurn stands on. -/
import Derived.Test.YtobkigllalbkiaaNodesTurnZA
/- Sets of pairs of numbers, kept as a map to truth values: made, asked, written, cleared. Nothing here names a program. -/
set_option linter.unusedVariables false
set_option linter.unusedSimpArgs false
namespace Go.Proofs.YtobkigllalbkiaaV
open Go.RowKit
section
variable {P : Program} {w : World} {t : TypeId}
/-- The plan of a pair of numbers. -/
def pairPlan : List (TypeDesc × Nat) := [(.int .i64, 0), (.int .i64, 1)]
theorem eqL_pair (a b : Int × Int) : eqL pairPlan [.int .i64 a.1, .int .i64 a.2] [.int .i64 b.1, .int .i64 b.2] = some (decide (a = b)) := by
  have : decide (a = b) = ((a.1 == b.1) && (a.2 == b.2)) := by
    rw [Bool.eq_iff_iff]
    simp [Prod.ext_iff]
  rw [this]; rfl
theorem run_equal_pair (hp : structOf P t = some pairPlan) (a b : Int × Int) : (Op.equal t (hkey a) (hkey b)).run P w = .ok (decide (a = b)) w := by
  unfold structOf at hp
  split at hp
  · rename_i fs hfs
    split at hp
    · cases hp
    · rename_i hst
      have hst : P.stoodInHeld t = false := by simpa using hst
      have hfo : P.fieldsOf t = fs := by simp [Program.fieldsOf, hfs]
      have := run_eqFields_plan (P := P) (w := w) (n := 9998) hp (eqL_pair a b)
      simp only [Op.equal, Op.maxDepth, hkey]
      rw [run_equalIn_agg (P := P) w 9999 t _ _ (by rw [hfo]; exact hfs) hst, hfo]
      exact this
  · cases hp
theorem run_findAsking_set (hp : structOf P t = some pairPlan) (h : Int × Int) : ∀ (es : List MapEntry) (hs : List (Int × Int)) (i : Nat), es.map (fun e => (e.key, e.val)) = hs.map (fun h => (hkey h, Value.bool true)) →
    (h ∈ hs → ∃ j, (Instr.findAsking t (hkey h) es i).run P w = .ok (some (j, .bool true)) w) ∧ (h ∉ hs → (Instr.findAsking t (hkey h) es i).run P w = .ok none w)
  | [], hs, i, he => by
    have : hs = [] := by simpa using he.symm
    subst this
    exact ⟨fun h => (by cases h), fun _ => by simp [Instr.findAsking]⟩
  | e :: es, [], i, he => by simp at he
  | e :: es, k :: hs, i, he => by
    simp only [List.map_cons, List.cons.injEq, Prod.mk.injEq] at he
    obtain ⟨⟨e1, e2⟩, he⟩ := he
    have ih := run_findAsking_set hp h es hs (i + 1) he
    have hq := run_equal_pair (w := w) hp h k
    by_cases hk : h = k
    · subst hk
      refine ⟨fun _ => ⟨i, ?_⟩, fun hn => absurd (by simp) hn⟩
      simp [Instr.findAsking, e1, hq, e2]
    · refine ⟨fun hm => ?_, fun hn => ?_⟩
      · obtain ⟨j, hj⟩ := ih.1 (by simpa [hk] using hm)
        exact ⟨j, by simp [Instr.findAsking, e1, hq, hk, hj]⟩
      · have := ih.2 (by intro hm; exact hn (by simp [hm]))
        simp [Instr.findAsking, e1, hq, hk, this]
theorem run_findKey_set (hp : structOf P t = some pairPlan) {es : Array MapEntry} {hs : List (Int × Int)} (S : SetRel es hs) (h : Int × Int) :
    (h ∈ hs → ∃ j, (Instr.findKey t (hkey h) es.toList).run P w = .ok (some (j, .bool true)) w) ∧ (h ∉ hs → (Instr.findKey t (hkey h) es.toList).run P w = .ok none w) := by
  have hu : ∃ fs, P.underlying t = some (.struct fs) := by
    unfold structOf at hp
    split at hp
    · exact ⟨_, by assumption⟩
    · cases hp
  obtain ⟨fs, hu⟩ := hu
  have key := run_findAsking_set (w := w) hp h es.toList hs 0 S
  cases hes : es.toList with
  | nil =>
    rw [hes] at key
    have : hs = [] := by
      have S' := S
      unfold SetRel at S'
      rw [hes] at S'
      simpa using S'.symm
    subst this
    exact ⟨fun h => (by cases h), fun _ => by simp [Instr.findKey, run_underlying hu, Instr.findNow]⟩
  | cons e l =>
    rw [hes] at key
    have hn : Instr.findNow (.struct fs) (hkey h) (e :: l) 0 = none := by
      unfold Instr.findNow
      have : Instr.sameNow (.struct fs) (hkey h) e.key = none := by unfold Instr.sameNow; simp
      rw [this]
    refine ⟨fun hm => ?_, fun hm => ?_⟩
    · obtain ⟨j, hj⟩ := key.1 hm
      exact ⟨j, by simp [Instr.findKey, run_underlying hu, hn, hj]⟩
    · simp [Instr.findKey, run_underlying hu, hn, key.2 hm]
theorem run_checkKey_scal {n : Nat} {b : Bool} {d : TypeDesc} {v : Value} (hd : scalDesc (P.underlying t) = some d) : (Instr.checkKey b (n + 1) t v).run P w = .ok () w := by
  obtain ⟨hu, hk⟩ := scalDesc_some' hd
  unfold Instr.checkKey
  rw [Sem.run_bind, run_underlying hu]
  rcases hk with ⟨k, rfl⟩ | rfl <;> simp [Result.andThen]
theorem run_checkKey_pair {b : Bool} (hp : structOf P t = some pairPlan) (h : Int × Int) : (Instr.checkKey b 10000 t (hkey h)).run P w = .ok () w := by
  unfold structOf at hp
  split at hp
  · rename_i fs hfs
    split at hp
    · cases hp
    · unfold Instr.checkKey
      rw [Sem.run_bind, run_underlying hfs]
      simp only [Result.andThen_ok, hkey]
      have key : ∀ (fl : List Field) (pl : List (TypeDesc × Nat)), planS P fl = some pl → (∀ p ∈ pl, ∃ v, ([.int .i64 h.1, .int .i64 h.2] : List Value)[p.2]? = some v) →
          (forIn (m := Sem) fl PUnit.unit (fun (f : Field) (_ : PUnit) => do
            if f.name ≠ "_" then Instr.checkKey b 9999 f.type (← part f.type #[.int .i64 h.1, .int .i64 h.2] f.offset)
            pure (ForInStep.yield PUnit.unit))).run P w = .ok PUnit.unit w := by
        intro fl
        induction fl with
        | nil => intro pl _ _; simp
        | cons f fl ih =>
          intro pl hp hv
          simp only [planS, List.mapM_cons, Option.bind_eq_bind] at hp
          obtain ⟨p, hp1, hp⟩ := Option.bind_eq_some_iff.1 hp
          obtain ⟨pl', hp2, hp⟩ := Option.bind_eq_some_iff.1 hp
          simp at hp; subst hp
          split at hp1
          · cases hp1
          rename_i hnm
          obtain ⟨d, hd, rfl⟩ := Option.map_eq_some_iff.1 hp1
          obtain ⟨v, hv1⟩ := hv (d, f.offset) (by simp)
          have h1 := ih pl' hp2 (fun q hq => hv q (by simp [hq]))
          have hnm' : f.name ≠ "_" := hnm
          simp only [List.forIn_cons, Sem.run_bind, hnm', ne_eq, not_false_eq_true, if_true]
          have hpt : (part f.type #[Value.int .i64 h.1, Value.int .i64 h.2] f.offset).run P w = .ok v w := run_part_scal hd hv1
          rw [hpt]
          simp only [Result.andThen_ok, run_checkKey_scal hd, Sem.run_pure]
          exact h1
      have := key fs.toList pairPlan hp (by
        intro p hp
        simp [pairPlan] at hp
        rcases hp with rfl | rfl
        · exact ⟨_, rfl⟩
        · exact ⟨_, rfl⟩)
      simpa using this
  · cases hp
end
/-! ### one of the call's own things lent to a callee that writes it -/
def okW (X : Nat → Prop) : Okp := ⟨fun _ _ => True, X, fun _ _ _ _ => trivial⟩
section
variable {ok0 : Okp} {w0 w w' : World} {L : List Ent} {Rs : List RE}
theorem nodup_of_ent {L : List Ent} (hn : (blks L).Nodup) {i : Nat} {e : Ent} (hi : L[i]? = some e) : e.blks.Nodup := by
  induction L generalizing i with
  | nil => simp at hi
  | cons x L ih =>
    simp only [blks, List.nodup_append] at hn
    cases i with
    | zero => simp at hi; subst hi; exact hn.1
    | succ i => exact ih hn.2.1 (by simpa using hi)
theorem blks_one (e : Ent) : blks [e] = e.blks := by simp [blks]
theorem Sep.lend (h : Sep ok0 w0 w L Rs) {i : Nat} {e : Ent} (hi : L[i]? = some e) : Sep (okW (· ∈ e.blks)) w w [e] [] :=
  ⟨BelowX.refl _ _, fun j e' hj => by
      cases j with
      | zero => simp at hj; subst hj; exact h.ents i _ hi
      | succ j => simp at hj,
    fun b hb => by rw [blks_one] at hb; exact ⟨.inr hb, (h.ge b (mem_blks hi hb)).2⟩, by rw [blks_one]; exact nodup_of_ent h.nodup hi, fun j re hj => by simp at hj⟩
/-- What may be read goes along. -/
theorem Sep.lendRd {α : Type} {K : Kd α} {A : Option Addr} {c : Nat} {xs : List α} {i : Nat} {e : Ent} {Rs' : List RE} (h : Sep ok0 w0 w L Rs) (h2 : Sep (okW (· ∈ e.blks)) w w [e] Rs') (hi : L[i]? = some e) (hr : Rd K w (okS ok0 w0 L) A c xs) : Sep (okW (· ∈ e.blks)) w w [e] (Rs' ++ [RE.rd K A c xs]) :=
  h2.also (hr.weak fun b ob _ hb => ⟨fun hb' => hb.1 (mem_blks hi (by rwa [blks_one] at hb')), .inl trivial⟩)
theorem Sep.lendCells {g o : Nat} {cs : List Value} {i : Nat} {e : Ent} {Rs' : List RE} (h : Sep ok0 w0 w L Rs) (h2 : Sep (okW (· ∈ e.blks)) w w [e] Rs') (hi : L[i]? = some e) (hr : (RE.cells g o cs).rel w (okS ok0 w0 L)) : Sep (okW (· ∈ e.blks)) w w [e] (Rs' ++ [RE.cells g o cs]) :=
  h2.also (re := RE.cells g o cs) ⟨hr.1.weak fun ob _ hb => ⟨fun hb' => hb.1 (mem_blks hi (by rwa [blks_one] at hb')), .inl trivial⟩, hr.2⟩
theorem Sep.lendBlk {g t : Nat} {cs : List Value} {i j : Nat} {e : Ent} {Rs' : List RE} (h : Sep ok0 w0 w L Rs) (h2 : Sep (okW (· ∈ e.blks)) w w [e] Rs') (hi : L[i]? = some e) (hj : L[j]? = some (.blk g t cs)) (hne : j ≠ i) : Sep (okW (· ∈ e.blks)) w w [e] (Rs' ++ [RE.cells g 0 cs]) :=
  h2.also (re := RE.cells g 0 cs) ⟨⟨_, h.ents j _ hj, fun hb' => other_blk h.nodup hj hi hne (b := g) (by simp [Ent.blks]) (by rwa [blks_one] at hb'), .inl trivial⟩, h.cells hj⟩
/-- .. and comes back. -/
theorem Sep.back {i : Nat} {e e' : Ent} {L2 : List Ent} {Rs' : List RE} (h : Sep ok0 w0 w L Rs) (hi : L[i]? = some e) (h2 : Sep (okW (· ∈ e.blks)) w w' (e' :: L2) Rs') : Sep ok0 w0 w' (L.set i e') Rs := by
  have hb := h2.bas
  have he : e'.ok w' := h2.ents 0 _ rfl
  refine h.grow hi he hb.size hb.os hb.tape hb.output (fun k hk hk' => hb.block k hk hk') (nodup_of_ent h2.nodup (i := 0) rfl) fun b hb' => ?_
  have := h2.ge b (mem_blks (i := 0) rfl hb')
  rcases this.1 with q | q
  · exact ⟨.inr q, this.2⟩
  · exact ⟨.inl q, this.2⟩
end
/-! ### a map's operations -/
def mapOf (P : Program) (t : TypeId) : Option (TypeId × TypeId) :=
  match P.underlying t with
  | some (.map k e) => some (k, e)
  | _ => none
theorem mapOf_un {P : Program} {t k e : TypeId} (h : mapOf P t = some (k, e)) : P.underlying t = some (.map k e) := by
  unfold mapOf at h
  split at h
  · rename_i k' e' he; simp at h; obtain ⟨rfl, rfl⟩ := h; exact he
  · cases h
def nin {α : Type} (h : Int × Int) (hs : List (Int × Int)) (k : Option α) : Option α := if h ∈ hs then none else k
theorem nin_some {α : Type} {h : Int × Int} {hs : List (Int × Int)} {k : Option α} {res : α} (hm : nin h hs k = some res) : h ∉ hs ∧ k = some res := by
  unfold nin at hm
  split at hm
  · cases hm
  · exact ⟨by assumption, hm⟩
section
variable {P : Program} {ops : Array Oper} {n : Nat} {r : Regs} {ok0 : Okp} {w0 w : World} {K : Regs → World → Prop} {L : List Ent} {Rs : List RE} {d : Nat} {ty : TypeId} {pos : String} {af : Array Edge} {gd : Option (Nat × Bool)} {dst : Option Tmp}
theorem O_makeMap {t : TypeId} (hw : wantedR ops r ⟨some d, .makeMap t none, ty, pos, af, gd⟩ = true) (hn : Nat.blt d n = true) (H : Sep ok0 w0 w L Rs)
    (h : ∀ w' b, Sep ok0 w0 w' (L ++ [.mset b []]) Rs → K (upd r d (.map (some b))) w') : OpR P ops n ⟨some d, .makeMap t none, ty, pos, af, gd⟩ r w K := by
  refine OpR_val hw rfl hn (v := .map (some w.heap.size)) (w' := w.alloc (.map #[] 0)) ?_ (h _ w.heap.size ?_)
  · simp [execOp, run_makeMap]
  · exact H.push _ (below_alloc w _) ⟨#[], 0, heap_alloc_new w _, by simp [SetRel]⟩ (by simp [Ent.blks]) (by simp [Ent.blks])
theorem x_lookupSet {x y : Operand} {t kt et i b : Nat} {hs : List (Int × Int)} {h : Int × Int} (hm : mapOf P t = some (kt, et)) (hp : structOf P kt = some pairPlan) (hz : zeroOf P et = some (.bool false)) (hx : ev r x = .map (some b)) (hy : ev r y = hkey h) (H : Sep ok0 w0 w L Rs) (hi : L[i]? = some (.mset b hs)) :
    (execOp (ev r) ⟨dst, .lookup t x y false, ty, pos, af, gd⟩).run P w = .ok (.value (.bool (decide (h ∈ hs)))) w := by
  obtain ⟨es, clock, hb, S⟩ := H.ents i _ hi
  unfold zeroOf at hz
  obtain ⟨inf, hq, hzz⟩ := Option.bind_eq_some_iff.1 hz
  have hk := run_findKey_set (w := w) hp S h
  have hck := fun b => run_checkKey_pair (w := w) (b := b) hp h
  by_cases hin : h ∈ hs
  · obtain ⟨j, hj⟩ := hk.1 hin
    simp [execOp, hx, hy, Instr.lookup, run_underlying (mapOf_un hm), MapKept.run_getObj_map hb, hck, hj, hin]
  · simp [execOp, hx, hy, Instr.lookup, run_underlying (mapOf_un hm), MapKept.run_getObj_map hb, hck, hk.2 hin, hin, zeroValue, typeInfo, hq, hzz]
theorem O_putSet {x y z : Operand} {t kt et i b : Nat} {hs hs' : List (Int × Int)} {h : Int × Int} (hw : wantedR ops r ⟨none, .mapUpdate t x y z, ty, pos, af, gd⟩ = true) (hm : mapOf P t = some (kt, et)) (hp : structOf P kt = some pairPlan) (hx : ev r x = .map (some b)) (hy : ev r y = hkey h) (hv : ev r z = .bool true)
    (H : Sep ok0 w0 w L Rs) (hi : L[i]? = some (.mset b hs)) (hn : h ∉ hs) (hh : hs ++ [h] = hs') (k : ∀ w', Sep ok0 w0 w' (L.set i (.mset b hs')) Rs → K r w') : OpR P ops n ⟨none, .mapUpdate t x y z, ty, pos, af, gd⟩ r w K := by
  subst hh
  obtain ⟨es, clock, hb, S⟩ := H.ents i _ hi
  have hk := run_findKey_set (w := w) hp S h
  have hck := fun b => run_checkKey_pair (w := w) (b := b) hp h
  refine OpR_unit hw rfl (w' := ChangeMaps.setBlock w b (.map (es.push { key := hkey h, val := .bool true, born := clock }) (clock + 1))) ?_ (k _ ?_)
  · simp [execOp, hx, hy, hv, Instr.mapUpdate, run_underlying (mapOf_un hm), MapKept.run_getObj_map hb, hck, hk.2 hn, MapKept.run_setObj_map _ hb, ChangeMaps.setBlock]
  · refine H.upd_ hi rfl ⟨_, _, ChangeMaps.heap_setBlock_same hb _, ?_⟩ (by simp [ChangeMaps.setBlock]) rfl rfl rfl fun q hq => ChangeMaps.heap_setBlock_other hb _ (by simpa [Ent.blks] using hq)
    unfold SetRel at S ⊢
    simp [S]
theorem O_clearSet {x : Operand} {t i b : Nat} {hs : List (Int × Int)} {kt et : Nat} (hw : wantedR ops r ⟨none, .call { callee := .builtin .clear, args := #[x], argTypes := #[t] }, ty, pos, af, gd⟩ = true) (hm : mapOf P t = some (kt, et)) (hx : ev r x = .map (some b)) (H : Sep ok0 w0 w L Rs) (hi : L[i]? = some (.mset b hs))
    (k : ∀ w', Sep ok0 w0 w' (L.set i (.mset b [])) Rs → K r w') : OpR P ops n ⟨none, .call { callee := .builtin .clear, args := #[x], argTypes := #[t] }, ty, pos, af, gd⟩ r w K := by
  obtain ⟨es, clock, hb, S⟩ := H.ents i _ hi
  refine OpR_val0 hw rfl (v := .tuple #[]) (w' := ChangeMaps.setBlock w b (.map #[] clock)) ?_ (k _ ?_)
  · simp [execOp, resolve, invoke, builtin, hx, Builtin.clear_, run_underlying (mapOf_un hm), MapKept.run_getObj_map hb, MapKept.run_setObj_map _ hb, ChangeMaps.setBlock]
  · exact H.upd_ hi rfl ⟨_, _, ChangeMaps.heap_setBlock_same hb _, by simp [SetRel]⟩ (by simp [ChangeMaps.setBlock]) rfl rfl rfl fun q hq => ChangeMaps.heap_setBlock_other hb _ (by simpa [Ent.blks] using hq)
end
end Go.Proofs.YtobkigllalbkiaaV

/- Rows of rows of the call's own: one taken out, put back, all handed on. Nothing here names a program. -/
set_option linter.unusedVariables false
set_option linter.unusedSimpArgs false
namespace Go.Proofs.YtobkigllalbkiaaV
open Go.RowKit
section
variable {ok0 : Okp} {w0 w w' : World} {L L' : List Ent} {Rs : List RE}
theorem blks_set_perm {L : List Ent} {i : Nat} {e e' : Ent} (hi : L[i]? = some e) : (e.blks ++ blks (L.set i e')).Perm (e'.blks ++ blks L) := by
  induction L generalizing i with
  | nil => simp at hi
  | cons x L ih =>
    cases i with
    | zero =>
      simp at hi; subst hi
      simp only [List.set_cons_zero, blks]
      rw [← List.append_assoc, ← List.append_assoc]
      exact List.Perm.append_right _ List.perm_append_comm
    | succ i =>
      have := ih (i := i) (by simpa using hi)
      simp only [List.set_cons_succ, blks]
      refine (List.perm_append_comm_assoc _ _ _).trans ?_
      refine (List.Perm.append_left x.blks this).trans ?_
      exact List.perm_append_comm_assoc _ _ _
theorem Sep.regroup (h : Sep ok0 w0 w L Rs) (hent : ∀ (i : Nat) (e : Ent), L'[i]? = some e → e.ok w) {X : List Nat} (hp : (X ++ blks L').Perm (blks L)) : Sep ok0 w0 w L' Rs := by
  have hsub : ∀ b, b ∈ blks L' → b ∈ blks L := fun b hb => hp.subset (List.mem_append.2 (.inr hb))
  have hnd : (blks L').Nodup := by
    have := hp.nodup_iff.2 h.nodup
    rw [List.nodup_append] at this
    exact this.2.1
  exact h.step h.bas (Nat.le_refl _) hent (fun b hb => h.ge b (hsub b hb)) hnd fun b hb hl => ⟨fun hb' => hb (hsub b hb'), rfl⟩
theorem ents_set {w : World} {L : List Ent} (h : ∀ (i : Nat) (e : Ent), L[i]? = some e → e.ok w) {k : Nat} {e' : Ent} (he : e'.ok w) : ∀ (i : Nat) (e : Ent), (L.set k e')[i]? = some e → e.ok w := by
  intro i e hi
  by_cases hk : k = i
  · subst hk
    have hlt : k < L.length := by
      have := (List.getElem?_eq_some_iff.1 hi).1
      simpa using this
    rw [List.getElem?_set_self hlt] at hi
    simp at hi; subst hi; exact he
  · rw [List.getElem?_set_ne hk] at hi; exact h i e hi
/-- What lies in a row of the call's own. -/
structure Inn (α : Type) where
  A : Option Addr
  c : Nat
  cs : List Value
  xs : List α
def Inn.v {α : Type} (r : Inn α) : Value := .slice r.A r.xs.length r.c
def Inn.t {α : Type} (r : Inn α) : Value × Nat × List Value := (r.v, r.xs.length, r.cs)
def Inn.hd {α : Type} (r : Inn α) : Option Addr × Nat × Nat := (r.A, r.xs.length, r.c)
def Inn.nil {α : Type} : Inn α := ⟨none, 0, [], []⟩
def rowsOf {α : Type} (t sz : Nat) (l : List (Inn α)) : Ent := .rows t sz (l.map Inn.t)
/-- Heads of slices, as cells. -/
def kHd : Kd (Option Addr × Nat × Nat) := Kd.flat 1 (fun x => [.slice x.1 x.2.1 x.2.2]) (fun _ => rfl) (fun x v hv => by simp at hv; subst hv; rfl)
def RE.inns {α : Type} (K : Kd α) (l : List (Inn α)) : RE := ⟨fun w ok => ∀ r ∈ l, Chunks K w ok r.cs r.xs, fun h hm r hr => (h r hr).keep hm⟩
theorem rowsOf_blks {α : Type} {t sz : Nat} {l : List (Inn α)} : (rowsOf t sz l).blks = l.flatMap fun r => r.v.ownBlock.toList := by
  simp [rowsOf, Ent.blks, List.flatMap_map, Inn.t]
theorem rowsOf_ok {α : Type} {t sz : Nat} {l : List (Inn α)} : (rowsOf t sz l).ok w ↔ ∀ r ∈ l, w.ownsRow 0 t sz r.v r.xs.length r.cs := by
  simp [rowsOf, Ent.ok, Inn.t]
theorem flatMap_set_perm {α β : Type} (f : α → List β) : ∀ {l : List α} {j : Nat} {x y : α}, l[j]? = some x → (f x ++ (l.set j y).flatMap f).Perm (f y ++ l.flatMap f)
  | a :: l, 0, x, y, h => by
    simp at h; subst h
    simp only [List.set_cons_zero, List.flatMap_cons]
    rw [← List.append_assoc, ← List.append_assoc]
    exact List.Perm.append_right _ List.perm_append_comm
  | a :: l, j + 1, x, y, h => by
    have := flatMap_set_perm f (l := l) (j := j) (x := x) (y := y) (by simpa using h)
    simp only [List.set_cons_succ, List.flatMap_cons]
    refine (List.perm_append_comm_assoc _ _ _).trans ?_
    refine (List.Perm.append_left (f a) this).trans ?_
    exact List.perm_append_comm_assoc _ _ _
theorem Sep.rowsNil {α : Type} (h : Sep ok0 w0 w L Rs) (t sz : Nat) : Sep ok0 w0 w (L ++ [rowsOf t sz ([] : List (Inn α))]) Rs :=
  h.push _ (Below.refl _ w) (rowsOf_ok.2 fun r hr => by simp at hr) (by simp [rowsOf_blks]) (by simp [rowsOf_blks])
/-- A row of its own goes behind the others. -/
theorem Sep.rowsPush {α : Type} (h : Sep ok0 w0 w L Rs) {i k t sz : Nat} {l : List (Inn α)} {r : Inn α} (hi : L[i]? = some (rowsOf t sz l)) (hk : L[k]? = some (.row r.v t sz r.xs.length r.cs)) (hne : i ≠ k) : Sep ok0 w0 w ((L.set i (rowsOf t sz (l ++ [r]))).set k .hole) Rs := by
  have hok := rowsOf_ok.1 (h.ents i _ hi)
  have hrow := h.ents k _ hk
  have e1 := blks_set_perm (e' := rowsOf t sz (l ++ [r])) hi
  have hk2 : (L.set i (rowsOf t sz (l ++ [r])))[k]? = some (.row r.v t sz r.xs.length r.cs) := by rw [List.getElem?_set_ne hne]; exact hk
  have e2 := blks_set_perm (e' := .hole) hk2
  refine h.regroup (X := []) (ents_set (ents_set h.ents (rowsOf_ok.2 fun q hq => ?_)) trivial) ?_
  · rcases List.mem_append.1 hq with hq | hq
    · exact hok q hq
    · simp at hq; subst hq; exact hrow
  · rw [rowsOf_blks, rowsOf_blks, List.flatMap_append] at e1
    simp only [List.flatMap_cons, List.flatMap_nil, List.append_nil, List.append_assoc] at e1
    have e3 := (List.perm_append_left_iff _).1 e1
    simp only [Ent.blks, List.nil_append] at e2
    exact (List.perm_append_left_iff _).1 (e2.trans e3)
/-- One of them is taken out. -/
theorem Sep.rowsPull {α : Type} (h : Sep ok0 w0 w L Rs) {i j t sz : Nat} {l : List (Inn α)} {r : Inn α} (hi : L[i]? = some (rowsOf t sz l)) (hj : l[j]? = some r) : Sep ok0 w0 w (L.set i (rowsOf t sz (l.set j Inn.nil)) ++ [.row r.v t sz r.xs.length r.cs]) Rs := by
  have hok := rowsOf_ok.1 (h.ents i _ hi)
  have e1 := blks_set_perm (e' := rowsOf t sz (l.set j Inn.nil)) hi
  have e2 := flatMap_set_perm (fun r : Inn α => r.v.ownBlock.toList) (y := Inn.nil) hj
  have hn : (Inn.nil : Inn α).v.ownBlock.toList = [] := rfl
  rw [hn, List.nil_append] at e2
  have hent1 : ∀ (k : Nat) (e : Ent), (L.set i (rowsOf t sz (l.set j Inn.nil)))[k]? = some e → e.ok w := ents_set h.ents (rowsOf_ok.2 fun q hq => by
    rcases List.mem_or_eq_of_mem_set hq with hq | rfl
    · exact hok q hq
    · exact World.ownsRow_nil w 0 t sz)
  refine h.regroup (X := []) (fun k e hk => ?_) ?_
  · rcases Nat.lt_or_ge k (L.set i (rowsOf t sz (l.set j Inn.nil))).length with hl | hl
    · rw [List.getElem?_append_left hl] at hk; exact hent1 k e hk
    · rw [List.getElem?_append_right hl] at hk
      rcases Nat.eq_zero_or_pos (k - (L.set i (rowsOf t sz (l.set j Inn.nil))).length) with h0 | h0
      · rw [h0] at hk; simp at hk; subst hk; exact hok r (List.mem_of_getElem? hj)
      · obtain ⟨m, hm⟩ : ∃ m, k - (L.set i (rowsOf t sz (l.set j Inn.nil))).length = m + 1 := ⟨_, (Nat.succ_pred_eq_of_pos h0).symm⟩
        rw [hm] at hk; simp at hk
  · rw [blks_append, blks_one, List.nil_append]
    rw [rowsOf_blks, rowsOf_blks] at e1
    have e3 := (List.Perm.append_right (blks (L.set i (rowsOf t sz (l.set j Inn.nil)))) e2).trans e1
    rw [List.append_assoc] at e3
    have e4 : (List.flatMap (fun r : Inn α => r.v.ownBlock.toList) (l.set j Inn.nil) ++ (r.v.ownBlock.toList ++ blks (L.set i (rowsOf t sz (l.set j Inn.nil))))).Perm (List.flatMap (fun r : Inn α => r.v.ownBlock.toList) (l.set j Inn.nil) ++ blks L) := (List.perm_append_comm_assoc _ _ _).trans e3
    exact List.perm_append_comm.trans ((List.perm_append_left_iff _).1 e4)
/-- .. and one is put in, for what was there. -/
theorem Sep.rowsPut {α : Type} (h : Sep ok0 w0 w L Rs) {i j k t sz : Nat} {l : List (Inn α)} {r0 r : Inn α} (hi : L[i]? = some (rowsOf t sz l)) (hj : l[j]? = some r0) (hk : L[k]? = some (.row r.v t sz r.xs.length r.cs)) (hne : i ≠ k) : Sep ok0 w0 w ((L.set i (rowsOf t sz (l.set j r))).set k .hole) Rs := by
  have hok := rowsOf_ok.1 (h.ents i _ hi)
  have hrow := h.ents k _ hk
  have e1 := blks_set_perm (e' := rowsOf t sz (l.set j r)) hi
  have e2 := flatMap_set_perm (fun r : Inn α => r.v.ownBlock.toList) (y := r) hj
  have hk2 : (L.set i (rowsOf t sz (l.set j r)))[k]? = some (.row r.v t sz r.xs.length r.cs) := by rw [List.getElem?_set_ne hne]; exact hk
  have e3 := blks_set_perm (e' := .hole) hk2
  refine h.regroup (X := r0.v.ownBlock.toList) (ents_set (ents_set h.ents (rowsOf_ok.2 fun q hq => ?_)) trivial) ?_
  · rcases List.mem_or_eq_of_mem_set hq with hq | rfl
    · exact hok q hq
    · exact hrow
  · rw [rowsOf_blks, rowsOf_blks] at e1
    simp only [Ent.blks, List.nil_append] at e3
    -- r0 ++ e ++ B1 ~ r0 ++ e' ++ B ~ r ++ e ++ B
    have f1 := (List.Perm.append_left r0.v.ownBlock.toList e1)
    rw [← List.append_assoc r0.v.ownBlock.toList (List.flatMap (fun r : Inn α => r.v.ownBlock.toList) (l.set j r))] at f1
    have f2 := f1.trans (List.Perm.append_right (blks L) e2)
    have f3 : (List.flatMap (fun r : Inn α => r.v.ownBlock.toList) l ++ (r0.v.ownBlock.toList ++ blks (L.set i (rowsOf t sz (l.set j r))))).Perm (List.flatMap (fun r : Inn α => r.v.ownBlock.toList) l ++ (r.v.ownBlock.toList ++ blks L)) := by
      refine (List.perm_append_comm_assoc _ _ _).trans (f2.trans ?_)
      rw [List.append_assoc]
      exact List.perm_append_comm_assoc _ _ _
    have f4 := (List.perm_append_left_iff _).1 f3
    -- r ++ B' ~ B1
    have f5 := (List.Perm.append_left r0.v.ownBlock.toList e3).trans f4
    have f6 : (r.v.ownBlock.toList ++ (r0.v.ownBlock.toList ++ blks ((L.set i (rowsOf t sz (l.set j r))).set k .hole))).Perm (r.v.ownBlock.toList ++ blks L) := (List.perm_append_comm_assoc _ _ _).trans f5
    exact (List.perm_append_left_iff _).1 f6
theorem RE.inns_set {α : Type} {K : Kd α} {l : List (Inn α)} {j : Nat} {r : Inn α} {ok : Okp} (h : (RE.inns K l).rel w ok) (hr : Chunks K w ok r.cs r.xs) : (RE.inns K (l.set j r)).rel w ok := fun q hq => by
  rcases List.mem_or_eq_of_mem_set hq with hq | rfl
  · exact h q hq
  · exact hr
end
section
variable {ok0 : Okp} {w0 w w' : World} {L L' : List Ent} {Rs : List RE}
/-- A row of the call's own, as a slice that may be read. -/
theorem rd_of_own {α : Type} {K : Kd α} {ok' : Okp} {t c : Nat} {A : Option Addr} {cs : List Value} {xs : List α} (hown : w.ownsRow 0 t K.sz (.slice A xs.length c) xs.length cs) (hc : Chunks K w ok' cs xs)
    (hp : ∀ g ob, A = some ⟨g, 0, none⟩ → w.heap[g]? = some ob → unfz ob → ok'.rd g ob) : Rd K w ok' A c xs := by
  rcases hown.2 with ⟨hv, h0⟩ | ⟨g, cap, cur, hv, _, hh, hnc, hcm, hcs, htake⟩
  · simp only [Value.slice.injEq] at hv
    obtain ⟨rfl, h0, rfl⟩ := hv
    obtain rfl : xs = [] := List.eq_nil_of_length_eq_zero h0
    exact ⟨by simp, by simp, fun h => absurd rfl h⟩
  · simp only [Value.slice.injEq] at hv
    obtain ⟨rfl, _, rfl⟩ := hv
    refine ⟨by omega, by simp only [maxLen] at hcm; omega, fun _ => ⟨g, 0, rfl, ⟨_, hh, hp g _ rfl hh rfl⟩, fun j x hj => ⟨_, hc.at_ j x hj, ?_⟩⟩⟩
    refine CellsAt.of_heap (cur := cur.toList) (t := t) (fr := (0, 0)) (by simpa using hh) fun k v hk => ?_
    rw [← htake, List.getElem?_take] at hk
    split at hk
    · rw [List.getElem?_drop, List.getElem?_take] at hk
      split at hk
      · rw [← hk]; congr 1; omega
      · cases hk
    · cases hk
theorem chunks_heads {α : Type} {K : Kd α} {ok ok' : Okp} : ∀ {l : List (Inn α)} {cs : List Value}, Chunks kHd w ok cs (l.map Inn.hd) → (∀ r ∈ l, Rd K w ok' r.A r.c r.xs) → Chunks (Kd.slice K) w ok' cs (l.map (·.xs))
  | [], _, h, _ => h
  | r :: l, cs, h, hr => ⟨⟨r.A, r.c, h.1, hr r (by simp)⟩, chunks_heads h.2 fun q hq => hr q (by simp [hq])⟩
/-- All rows, and their heads, are handed on. -/
theorem Sep.rowsFreeze {α : Type} {K : Kd α} (h : Sep ok0 w0 w L Rs) (hno : ∀ k, ¬ ok0.wr k) (hF : FlatK K) {i o j q t te c : Nat} {A : Option Addr} {cs : List Value} {l : List (Inn α)} (hi : L[i]? = some (rowsOf t K.sz l)) (ho : L[o]? = some (.row (.slice A l.length c) te 1 l.length cs))
    (hj : Rs[j]? = some (RE.chunks kHd cs (l.map Inn.hd))) (hq : Rs[q]? = some (RE.inns K l)) (hne : i ≠ o) : Sep ok0 w0 w ((L.set i .hole).set o .hole) (Rs ++ [RE.fr w0.heap.size (Kd.slice K) A c (l.map (·.xs))]) := by
  have h1 := (h.holeL i).holeL o
  refine h1.also ?_
  have hsub : ∀ b, b ∈ blks ((L.set i .hole).set o .hole) → b ∈ blks (L.set i .hole) := fun b hb => mem_blks_set' hb
  have ho2 : (L.set i .hole)[o]? = some (.row (.slice A l.length c) te 1 l.length cs) := by rw [List.getElem?_set_ne hne]; exact ho
  have perm : ∀ b ob, (b ∈ (rowsOf t K.sz l).blks ∨ b ∈ (Ent.row (.slice A l.length c) te 1 l.length cs).blks) → unfz ob → ((okS ok0 w0 ((L.set i .hole).set o .hole)).fr w0.heap.size).rd b ob := by
    intro b ob hb hu
    have hge : w0.heap.size ≤ b := by
      rcases hb with hb | hb
      · exact (h.ge b (mem_blks hi hb)).1.resolve_right (hno b)
      · exact (h.ge b (mem_blks ho hb)).1.resolve_right (hno b)
    refine ⟨⟨fun hb' => ?_, .inr ⟨hge, hu⟩⟩, hge, hu⟩
    rcases hb with hb | hb
    · exact hole_not h.nodup hi hb (hsub b hb')
    · exact hole_not (h.holeL i).nodup ho2 hb hb'
  have hrows := rowsOf_ok.1 (h.ents i _ hi)
  have hin : (RE.inns K l).rel w _ := h.rds q _ hq
  have hh : (RE.chunks kHd cs (l.map Inn.hd)).rel w _ := h.rds j _ hj
  have inner : ∀ r ∈ l, Rd K w ((okS ok0 w0 ((L.set i .hole).set o .hole)).fr w0.heap.size) r.A r.c r.xs := fun r hr =>
    rd_of_own (hrows r hr) ((hin r hr).flat hF) fun g ob hA hg hu => perm g ob (.inl (by
      rw [rowsOf_blks]
      exact List.mem_flatMap.2 ⟨r, hr, by simp [Inn.v, hA, Value.ownBlock]⟩)) hu
  have hout : w.ownsRow 0 te 1 (.slice A (l.map (·.xs)).length c) (l.map (·.xs)).length cs := by rw [List.length_map]; exact h.ents o _ ho
  exact rd_of_own (K := Kd.slice K) hout (chunks_heads hh inner) fun g ob hA hg hu => perm g ob (.inr (by simp [Ent.blks, Value.ownBlock, hA])) hu
end
end Go.Proofs.YtobkigllalbkiaaV

/- Rows of the call's own, written in place: cut out of, cleared, shifted, made longer. Nothing here names a program. -/
set_option linter.unusedVariables false
set_option linter.unusedSimpArgs false
namespace Go.Proofs.YtobkigllalbkiaaV
open Go.RowKit
section
variable {ok0 : Okp} {w0 w w' : World} {L : List Ent} {Rs : List RE}
/-- An object that stands. -/
def RE.heap (b : Nat) (ob : Obj) : RE := ⟨fun w ok => w.heap[b]? = some ob ∧ ok.rd b ob, fun h hm => by
  have := hm.at' (g := b) ⟨_, h.1, h.2⟩
  obtain ⟨⟨ob', h1, h2⟩, h3⟩ := this
  rw [h3, h.1] at h1
  obtain rfl := Option.some.inj h1
  exact ⟨h3.trans h.1, h2⟩⟩
theorem Sep.rowRaw {α : Type} {D : Kd α} {i e c g : Nat} {cs : List Value} {xs : List α} (H : Sep ok0 w0 w L Rs) (hi : L[i]? = some (.row (.slice (some ⟨g, 0, none⟩) xs.length c) e D.sz xs.length cs)) :
    ∃ cur : List Value, w.heap[g]? = some (.cells cur.toArray e (0, 0)) ∧ cur.length = c * D.sz ∧ xs.length ≤ c ∧ c ≤ maxLen ∧ cur.take (xs.length * D.sz) = cs := by
  have hrow := H.ents i _ hi
  rcases hrow.2 with ⟨hv, h0⟩ | ⟨g', cap, cur, hv, _, hh, hnc, hcm, hcs, htake⟩
  · simp at hv
  · simp only [Value.slice.injEq, Option.some.injEq, Addr.mk.injEq, and_true, true_and] at hv
    obtain ⟨rfl, rfl⟩ := hv
    exact ⟨cur.toList, by simpa using hh, by simpa using hcs, hnc, hcm, htake⟩
/-- A row written in place, wherever in its memory: what it holds then. -/
theorem Sep.rowWrite {α : Type} {D : Kd α} {i j e c g n n0 : Nat} {cs cs0 cur nw : List Value} {ys : List α} (H : Sep ok0 w0 w L Rs) (hi : L[i]? = some (.row (.slice (some ⟨g, 0, none⟩) n0 c) e D.sz n0 cs0))
    (hg : w.heap[g]? = some (.cells cur.toArray e (0, 0))) (hcl : cur.length = c * D.sz) (hcm : c ≤ maxLen) (hnl : nw.length = cur.length) (hn : ys.length = n) (hnc : n ≤ c) (hcs : nw.take (n * D.sz) = cs) (hch : Chunks D w (okS ok0 w0 L) cs ys) :
    Sep ok0 w0 (w.setRow g nw.toArray) (L.set i (.row (.slice (some ⟨g, 0, none⟩) n c) e D.sz n cs)) (Rs.set j (RE.chunks D cs ys)) := by
  have hS := H.upd_ (w' := w.setRow g nw.toArray) (e' := .row (.slice (some ⟨g, 0, none⟩) n c) e D.sz n cs) hi rfl
    ⟨by rw [← hn]; exact hch.len, .inr ⟨g, c, _, rfl, Nat.zero_le _, setRow_heap w g cur.toArray _ e (0, 0) hg, hnc, hcm, by simp; omega, by simpa using hcs⟩⟩ (by simp [World.setRow]) rfl rfl rfl
    fun k hk => setRow_other w g k _ (by simpa [Ent.blks, Value.ownBlock] using hk)
  refine hS.setRe j ?_
  refine (RE.chunks D _ _).keep (w := w) (ok := okS ok0 w0 L) hch ⟨by simp [World.setRow], fun b ob ho hb => ⟨⟨?_, hb.2⟩, setRow_other w g b _ fun he => hb.1 (mem_blks hi (by simp [Ent.blks, Value.ownBlock, he]))⟩⟩
  rw [blks_set (e := .row (.slice (some ⟨g, 0, none⟩) n0 c) e D.sz n0 cs0) hi (by rfl)]; exact hb.1
/-- The first of a row. -/
theorem Sep.rowShrink {α : Type} {D : Kd α} {i j e c : Nat} {A : Option Addr} {cs : List Value} {xs ys : List α} {m : Nat} (H : Sep ok0 w0 w L Rs) (hi : L[i]? = some (.row (.slice A xs.length c) e D.sz xs.length cs)) (hj : Rs[j]? = some (RE.chunks D cs xs)) (hys : xs.take m = ys) (hm : m ≤ xs.length) :
    Sep ok0 w0 w (L.set i (.row (.slice A ys.length c) e D.sz ys.length (cs.take (m * D.sz)))) (Rs.set j (RE.chunks D (cs.take (m * D.sz)) ys)) := by
  have hch : Chunks D w (okS ok0 w0 L) cs xs := H.rds j _ hj
  have hyl : ys.length = m := by subst hys; simp; omega
  have hrow := H.ents i _ hi
  have hc2 : Chunks D w (okS ok0 w0 L) (cs.take (m * D.sz)) ys := by subst hys; exact hch.takeN m
  have hb : (Ent.row (.slice A ys.length c) e D.sz ys.length (cs.take (m * D.sz))).blks = (Ent.row (.slice A xs.length c) e D.sz xs.length cs).blks := by
    cases A <;> rfl
  have hS := H.upd_ (w' := w) (e' := .row (.slice A ys.length c) e D.sz ys.length (cs.take (m * D.sz))) hi hb ?_ rfl rfl rfl rfl fun _ _ => rfl
  · exact hS.setRe j (by rw [okS_set hi hb]; exact hc2)
  · refine ⟨hc2.len, ?_⟩
    rcases hrow.2 with ⟨hv, h0⟩ | ⟨g', cap, cur, hv, h1, hh, hnc, hcm, hcs, htake⟩
    · simp only [Value.slice.injEq] at hv
      obtain ⟨rfl, _, rfl⟩ := hv
      have : ys.length = 0 := by omega
      exact .inl ⟨by rw [this], this⟩
    · simp only [Value.slice.injEq] at hv
      obtain ⟨rfl, _, rfl⟩ := hv
      refine .inr ⟨g', c, cur, rfl, h1, hh, by omega, hcm, hcs, ?_⟩
      rw [← htake, List.take_take, hyl]
      congr 1
      have := Nat.mul_le_mul_right D.sz hm
      omega
theorem chunks_zero {α : Type} {D : Kd α} {z : Value} {x0 : α} (hzs : z.cells.size = D.sz) (hr : ∀ w ok, D.rel w ok z.cells.toList x0) {w : World} {ok : Okp} (m : Nat) : Chunks D w ok (Builtin.zeroCells z.cells m).toList (List.replicate m x0) := by
  have h := chunks_made (D := D) hzs hr (w := w) (ok := ok) m
  have e : Builtin.zeroCells z.cells m = madeCells z.cells (m * D.sz) := by
    unfold Builtin.zeroCells madeCells
    rw [hzs]
  rw [e]; exact h
end
section
variable {P : Program} {ops : Array Oper} {n : Nat} {r : Regs} {ok0 : Okp} {w0 w : World} {K : Regs → World → Prop} {L : List Ent} {Rs : List RE} {d : Nat} {dst : Option Tmp} {ty : TypeId} {pos : String} {af : Array Edge} {gd : Option (Nat × Bool)}
/-- clear(s[lo:hi]), behind what a row of the call's own holds. -/
theorem O_clearPast {α : Type} {D : Kd α} {x : Operand} {t e i j c k c2 lo : Nat} {A A3 : Option Addr} {cs : List Value} {xs : List α} {z : Value} {x0 : α}
    (hw : wantedR ops r ⟨none, .call { callee := .builtin .clear, args := #[x], argTypes := #[t] }, ty, pos, af, gd⟩ = true) (hx : ev r x = .slice A3 k c2) (hA3 : A3 = slA A c lo D.sz)
    (H : Sep ok0 w0 w L Rs) (hi : L[i]? = some (.row (.slice A xs.length c) e D.sz xs.length cs)) (hj : Rs[j]? = some (RE.chunks D cs xs)) (hlo : xs.length ≤ lo) (hle : lo + k ≤ c)
    (hu : slElem P t = some e) (hz0 : zeroOf P e = some z) (hzs : z.cells.size = D.sz) (hr : ∀ w ok, D.rel w ok z.cells.toList x0)
    (h : ∀ w', Sep ok0 w0 w' (L.set i (.row (.slice A xs.length c) e D.sz xs.length cs)) (Rs.set j (RE.chunks D cs xs)) → K r w') : OpR P ops n ⟨none, .call { callee := .builtin .clear, args := #[x], argTypes := #[t] }, ty, pos, af, gd⟩ r w K := by
  subst hA3
  have hu' := slElem_un hu
  have hch : Chunks D w (okS ok0 w0 L) cs xs := H.rds j _ hj
  have same : L.set i (.row (.slice A xs.length c) e D.sz xs.length cs) = L ∧ Rs.set j (RE.chunks D cs xs) = Rs := by
    constructor
    · apply List.ext_getElem?
      intro q
      by_cases hq : i = q
      · subst hq; rw [List.getElem?_set_self (List.getElem?_eq_some_iff.1 hi).1, hi]
      · rw [List.getElem?_set_ne hq]
    · apply List.ext_getElem?
      intro q
      by_cases hq : j = q
      · subst hq; rw [List.getElem?_set_self (List.getElem?_eq_some_iff.1 hj).1, hj]
      · rw [List.getElem?_set_ne hq]
  by_cases hk : k = 0
  · subst hk
    refine OpR_val0 hw rfl (v := .tuple #[]) (w' := w) ?_ (h _ (by rw [same.1, same.2]; exact H))
    cases hs : slA A c lo D.sz with
    | none => simp [execOp, resolve, invoke, builtin, hx, hs, Builtin.clear_, run_underlying hu']
    | some a => simp [execOp, resolve, invoke, builtin, hx, hs, Builtin.clear_, run_underlying hu']
  · obtain ⟨hc, hA⟩ := H.rowForm hi
    obtain ⟨g, rfl⟩ : ∃ g, A = some ⟨g, 0, none⟩ := by
      rcases hA with ⟨_, _, rfl⟩ | h
      · omega
      · exact h
    obtain ⟨cur, hg, hcl, hxc, hcm, htake⟩ := H.rowRaw hi
    have hcl' : c ≠ lo := by omega
    have hs : slA (some ⟨g, 0, none⟩) c lo D.sz = some ⟨g, lo * D.sz, none⟩ := by simp [slA, hcl', add_plain]
    have hzc := chunks_zero (D := D) hzs hr (w := w) (ok := okS ok0 w0 L) k
    have hvl : (Builtin.zeroCells z.cells k).toList.length = k * D.sz := by rw [hzc.len]; simp
    have hfit : lo * D.sz + k * D.sz ≤ c * D.sz := by rw [← Nat.add_mul]; exact Nat.mul_le_mul_right _ hle
    have hst := run_storeCells_at P g (lo * D.sz) e (Builtin.zeroCells z.cells k).toList 0 cur.toArray w hg (by simp only [Nat.add_zero, List.size_toArray]; omega) hzc.one
    simp only [Nat.add_zero, List.toList_toArray] at hst
    obtain ⟨nw, hnw⟩ : ∃ nw, nw = cur.take (lo * D.sz) ++ (Builtin.zeroCells z.cells k).toList ++ cur.drop (lo * D.sz + (Builtin.zeroCells z.cells k).toList.length) := ⟨_, rfl⟩
    rw [← hnw] at hst
    obtain ⟨m, rfl⟩ : ∃ m, k = m + 1 := ⟨k - 1, by omega⟩
    have hzv : (zeroValue e).run P w = .ok z w := by
      unfold zeroOf at hz0
      obtain ⟨inf, hq, hzz⟩ := Option.bind_eq_some_iff.1 hz0
      simp [zeroValue, typeInfo, hq, hzz]
    refine OpR_val0 hw rfl (v := .tuple #[]) (w' := w.setRow g nw.toArray) (by rw [hs] at hx; simp [execOp, resolve, invoke, builtin, hx, Builtin.clear_, run_underlying hu', hzv, hst]) (h _ ?_)
    have hle0 : xs.length * D.sz ≤ lo * D.sz := Nat.mul_le_mul_right _ hlo
    exact H.rowWrite (j := j) hi hg hcl hcm (by subst hnw; simp only [List.length_append, List.length_take, List.length_drop, hvl]; omega) rfl hxc (by
      subst hnw
      rw [List.append_assoc, List.take_append_of_le_length (by rw [List.length_take]; omega), List.take_take, show min (xs.length * D.sz) (lo * D.sz) = xs.length * D.sz by omega]
      exact htake) hch
/-- append(s[:lo], s[b:]...), a row of the call's own. -/
theorem O_cutAppend {α : Type} {D : Kd α} {s x : Operand} {t e i j c c2 m lo b : Nat} {A A3 A4 : Option Addr} {cs : List Value} {xs ys : List α}
    (hw : wantedR ops r ⟨some d, .call { callee := .builtin .append, args := #[s, x], argTypes := #[t, t] }, ty, pos, af, gd⟩ = true) (hn : Nat.blt d n = true)
    (hs : ev r s = .slice A3 lo c) (hA3 : A3 = slA A c 0 D.sz) (hx : ev r x = .slice A4 m c2) (hA4 : A4 = slA A c b D.sz) (hm : m = xs.length - b)
    (H : Sep ok0 w0 w L Rs) (hi : L[i]? = some (.row (.slice A xs.length c) e D.sz xs.length cs)) (hj : Rs[j]? = some (RE.chunks D cs xs)) (hlo : lo ≤ b) (hb : b ≤ xs.length) (hne : 0 < xs.length)
    (hys : xs.take lo ++ xs.drop b = ys) (hu : slElem P t = some e) (hz : szOf P e = some D.sz)
    (h : ∀ w' cs', Sep ok0 w0 w' (L.set i (.row (.slice A ys.length c) e D.sz ys.length cs')) (Rs.set j (RE.chunks D cs' ys)) → K (upd r d (.slice A ys.length c)) w') :
    OpR P ops n ⟨some d, .call { callee := .builtin .append, args := #[s, x], argTypes := #[t, t] }, ty, pos, af, gd⟩ r w K := by
  subst hA3; subst hA4; subst hm
  unfold szOf at hz
  obtain ⟨inf, hq, hsz⟩ := Option.map_eq_some_iff.1 hz
  obtain ⟨hc, hA⟩ := H.rowForm hi
  obtain ⟨g, rfl⟩ : ∃ g, A = some ⟨g, 0, none⟩ := by
    rcases hA with ⟨_, rfl, _⟩ | h
    · simp at hne
    · exact h
  obtain ⟨cur, hg, hcl, hxc, hcm, htake⟩ := H.rowRaw hi
  have hch : Chunks D w (okS ok0 w0 L) cs xs := H.rds j _ hj
  have hcsl := hch.len
  have hcells := H.rowCells hi
  have hbz : b * D.sz ≤ xs.length * D.sz := Nat.mul_le_mul_right _ hb
  have hlz : lo * D.sz ≤ b * D.sz := Nat.mul_le_mul_right _ hlo
  have hxz : xs.length * D.sz ≤ c * D.sz := Nat.mul_le_mul_right _ hxc
  have h3 : slA (some ⟨g, 0, none⟩) c 0 D.sz = some ⟨g, 0, none⟩ := by simp [slA, add_plain]
  obtain ⟨a, h4, hat⟩ : ∃ a, slA (some ⟨g, 0, none⟩) c b D.sz = some a ∧ ∀ q u, (cs.drop (b * D.sz))[q]? = some u → w.cell? (a.add q) = some u := by
    by_cases hcb : c = b
    · refine ⟨⟨g, 0, none⟩, by simp [slA, hcb], fun q u hq => ?_⟩
      rw [List.getElem?_drop] at hq
      have := (List.getElem?_eq_some_iff.1 hq).1
      have hbx : b = xs.length := by omega
      subst hbx
      omega
    · refine ⟨⟨g, b * D.sz, none⟩, by simp [slA, hcb, add_plain], fun q u hq => ?_⟩
      rw [List.getElem?_drop] at hq
      have := hcells _ _ hq
      rw [add_plain]; simpa using this
  have hnl : (cs.drop (b * D.sz)).length = (xs.length - b) * D.sz := by rw [List.length_drop, hcsl, Nat.sub_mul]
  have hrun := run_append_room (P := P) w t ty e inf (slElem_un hu) hq g lo c cur.toArray hg a (xs.length - b) c2 (cs.drop (b * D.sz)) (by rw [hsz]; exact hnl) hat (fun u hu' => hch.one u (List.mem_of_mem_drop hu')) (by omega)
    (by rw [hsz, hnl, List.size_toArray, hcl, ← Nat.add_mul]; exact Nat.mul_le_mul_right _ (by omega))
  have hyl : ys.length = lo + (xs.length - b) := by subst hys; simp; omega
  rw [hsz, ← hyl] at hrun
  obtain ⟨nw, hnw⟩ : ∃ nw, nw = cur.take (lo * D.sz) ++ cs.drop (b * D.sz) ++ cur.drop (lo * D.sz + (cs.drop (b * D.sz)).length) := ⟨_, rfl⟩
  simp only [List.toList_toArray] at hrun
  rw [← hnw] at hrun
  refine OpR_val hw rfl hn (v := .slice (some ⟨g, 0, none⟩) ys.length c) (w' := w.setRow g nw.toArray) (by rw [h3] at hs; rw [h4] at hx; simp [execOp, resolve, invoke, builtin, hs, hx, hrun]) (h _ (cs.take (lo * D.sz) ++ cs.drop (b * D.sz)) ?_)
  have htl : cur.take (lo * D.sz) = cs.take (lo * D.sz) := by rw [← htake, List.take_take, show min (lo * D.sz) (xs.length * D.sz) = lo * D.sz by omega]
  refine H.rowWrite (j := j) hi hg hcl hcm ?_ rfl (by omega) ?_ ?_
  · subst hnw
    simp only [List.length_append, List.length_take, List.length_drop]; omega
  · subst hnw
    rw [htl]
    have hl2 : (cs.take (lo * D.sz) ++ cs.drop (b * D.sz)).length = ys.length * D.sz := by
      rw [List.length_append, List.length_take, hnl, hyl, Nat.add_mul, Nat.min_eq_left (by omega)]
    rw [← hl2, List.take_left']
    rfl
  · subst hys
    exact (hch.takeN lo).app (hch.dropN b)
/-- copy(s[lo+1:], s[lo:]), s one longer than what the row holds. -/
theorem O_copyShift {α : Type} {D : Kd α} {x y : Operand} {td ts e i j c c2 dc lo dn m : Nat} {A A2 A3 : Option Addr} {cs : List Value} {xs ys : List α}
    (hw : wantedR ops r ⟨some d, .call { callee := .builtin .copy, args := #[x, y], argTypes := #[td, ts] }, ty, pos, af, gd⟩ = true) (hn : Nat.blt d n = true)
    (hx : ev r x = .slice A3 dn dc) (hA3 : A3 = slA A c (lo + 1) D.sz) (hdn : dn = xs.length - lo) (hy : ev r y = .slice A2 m c2) (hA2 : A2 = slA A c lo D.sz) (hm : m = xs.length + 1 - lo)
    (H : Sep ok0 w0 w L Rs) (hi : L[i]? = some (.row (.slice A xs.length c) e D.sz xs.length cs)) (hj : Rs[j]? = some (RE.chunks D cs xs))
    (hlo : lo < xs.length) (hc : xs.length + 1 ≤ c) (hu : slElem P td = some e) (hz : szOf P e = some D.sz) (hys : xs.take (lo + 1) ++ xs.drop lo = ys)
    (h : ∀ v w' cs', Sep ok0 w0 w' (L.set i (.row (.slice A ys.length c) e D.sz ys.length cs')) (Rs.set j (RE.chunks D cs' ys)) → K (upd r d v) w') :
    OpR P ops n ⟨some d, .call { callee := .builtin .copy, args := #[x, y], argTypes := #[td, ts] }, ty, pos, af, gd⟩ r w K := by
  subst hA3; subst hA2; subst hm; subst hdn
  unfold szOf at hz
  obtain ⟨inf, hq, hsz⟩ := Option.map_eq_some_iff.1 hz
  have hu' := slElem_un hu
  obtain ⟨_, hA⟩ := H.rowForm hi
  obtain ⟨g, rfl⟩ : ∃ g, A = some ⟨g, 0, none⟩ := by
    rcases hA with ⟨_, rfl, _⟩ | h
    · simp at hlo
    · exact h
  obtain ⟨cur, hg, hcl, hxc, hcm, htake⟩ := H.rowRaw hi
  have hch : Chunks D w (okS ok0 w0 L) cs xs := H.rds j _ hj
  have hcsl := hch.len
  have hcells := H.rowCells hi
  have h3 : slA (some ⟨g, 0, none⟩) c (lo + 1) D.sz = some ⟨g, (lo + 1) * D.sz, none⟩ := by simp [slA, show c ≠ lo + 1 by omega, add_plain]
  have h4 : slA (some ⟨g, 0, none⟩) c lo D.sz = some ⟨g, lo * D.sz, none⟩ := by simp [slA, show c ≠ lo by omega, add_plain]
  have hnl : (cs.drop (lo * D.sz)).length = (xs.length - lo) * D.sz := by rw [List.length_drop, hcsl, Nat.sub_mul]
  have hfc := run_firstCells_some (P := P) w D.sz (xs.length - lo) ⟨g, lo * D.sz, none⟩ (xs.length + 1 - lo) c2 (cs.drop (lo * D.sz)) hnl (fun q v hq => by
    rw [List.getElem?_drop] at hq
    have := hcells _ _ hq
    rw [add_plain]; simpa using this)
  have e1 : (lo + 1) * D.sz + (xs.length - lo) * D.sz = (xs.length + 1) * D.sz := by rw [← Nat.add_mul]; congr 1; omega
  have e2 : (xs.length + 1) * D.sz ≤ c * D.sz := Nat.mul_le_mul_right _ hc
  have e3 : (lo + 1) * D.sz ≤ xs.length * D.sz := Nat.mul_le_mul_right _ hlo
  have hst := run_storeCells_at P g ((lo + 1) * D.sz) e (cs.drop (lo * D.sz)) 0 cur.toArray w hg (by simp only [Nat.add_zero, List.size_toArray]; omega) (fun u hu' => hch.one u (List.mem_of_mem_drop hu'))
  simp only [Nat.add_zero, List.toList_toArray] at hst
  obtain ⟨nw, hnw⟩ : ∃ nw, nw = cur.take ((lo + 1) * D.sz) ++ cs.drop (lo * D.sz) ++ cur.drop ((lo + 1) * D.sz + (cs.drop (lo * D.sz)).length) := ⟨_, rfl⟩
  rw [← hnw] at hst
  have hcopy : (Builtin.copy_ #[td, ts] ty #[.slice (some ⟨g, (lo + 1) * D.sz, none⟩) (xs.length - lo) dc, .slice (some ⟨g, lo * D.sz, none⟩) (xs.length + 1 - lo) c2]).run P w = .ok (.int .i64 ((xs.length - lo : Nat) : Int)) (w.setRow g nw.toArray) := by
    have hmin : (xs.length + 1 - lo).min (xs.length - lo) = xs.length - lo := Nat.min_eq_right (by omega)
    simp [Builtin.copy_, run_underlying hu', Builtin.lenOf, hmin, sizeOf, typeInfo, hq, hsz, hfc, goInt, hst]
  refine OpR_val hw rfl hn (v := .int .i64 ((xs.length - lo : Nat) : Int)) (w' := w.setRow g nw.toArray) (by rw [h3] at hx; rw [h4] at hy; simp [execOp, resolve, invoke, builtin, hx, hy, hcopy]) (h _ _ (cs.take ((lo + 1) * D.sz) ++ cs.drop (lo * D.sz)) ?_)
  have htl : cur.take ((lo + 1) * D.sz) = cs.take ((lo + 1) * D.sz) := by rw [← htake, List.take_take, Nat.min_eq_left e3]
  have hyl : ys.length = xs.length + 1 := by subst hys; simp; omega
  refine H.rowWrite (j := j) hi hg hcl hcm ?_ rfl (by omega) ?_ ?_
  · subst hnw
    have hnl2 : cs.length - lo * D.sz = (xs.length - lo) * D.sz := by rw [← List.length_drop]; exact hnl
    simp only [List.length_append, List.length_take, List.length_drop, hnl2]; omega
  · subst hnw
    rw [htl]
    have hl2 : (cs.take ((lo + 1) * D.sz) ++ cs.drop (lo * D.sz)).length = ys.length * D.sz := by
      rw [List.length_append, List.length_take, hnl, hyl, Nat.min_eq_left (by omega)]; exact e1
    rw [← hl2, List.take_left']
    rfl
  · subst hys
    exact (hch.takeN (lo + 1)).app (hch.dropN lo)
/-- append(s[:lo], make(S, k)...), where there is no room: a new row. -/
theorem O_appendMake {α : Type} {D : Kd α} {s x : Operand} {t tn e i j c k lo bytes : Nat} {kq kn : IntKind} {A A3 : Option Addr} {cs : List Value} {xs ys : List α} {z : Value} {x0 : α}
    (hw : wantedR ops r ⟨some d, .call { callee := .builtin .append, args := #[s, x], argTypes := #[t, tn] }, ty, pos, af, gd⟩ = true) (hn : Nat.blt d n = true)
    (hs : ev r s = .slice A3 lo c) (hA3 : A3 = slA A c 0 D.sz) (hx : ev r x = .int kq (k : Int)) (htn : P.underlying tn = some (.int kn))
    (H : Sep ok0 w0 w L Rs) (hi : L[i]? = some (.row (.slice A xs.length c) e D.sz xs.length cs)) (hj : Rs[j]? = some (RE.chunks D cs xs)) (hlo : lo ≤ xs.length) (hne : 0 < xs.length) (hk : c < lo + k) (hk0 : 0 < k)
    (hys : xs.take lo ++ List.replicate k x0 = ys) (hu : slElem P t = some e) (hz : szOf P e = some D.sz) (hby : bytesOf P e = some bytes) (hz0 : zeroOf P e = some z) (hzs : z.cells.size = D.sz) (hpos : Nat.blt 0 D.sz = true)
    (hr : ∀ w ok, D.rel w ok z.cells.toList x0) (hb : (lo + k) * bytes ≤ 140737488355328) (hb0 : Nat.blt 0 bytes = true)
    (h : ∀ w' g' c' cs', Sep ok0 w0 w' (L ++ [.row (.slice (some ⟨g', 0, none⟩) ys.length c') e D.sz ys.length cs']) (Rs ++ [RE.chunks D cs' ys]) → K (upd r d (.slice (some ⟨g', 0, none⟩) ys.length c')) w') :
    OpR P ops n ⟨some d, .call { callee := .builtin .append, args := #[s, x], argTypes := #[t, tn] }, ty, pos, af, gd⟩ r w K := by
  subst hA3
  unfold szOf at hz; unfold bytesOf at hby; unfold zeroOf at hz0
  obtain ⟨inf, hq, hsz⟩ := Option.map_eq_some_iff.1 hz
  simp only [hq, Option.map_some, Option.some.injEq, Option.bind_some] at hby hz0
  obtain ⟨_, hA⟩ := H.rowForm hi
  obtain ⟨g, rfl⟩ : ∃ g, A = some ⟨g, 0, none⟩ := by
    rcases hA with ⟨_, rfl, _⟩ | h
    · simp at hne
    · exact h
  have hch : Chunks D w (okS ok0 w0 L) cs xs := H.rds j _ hj
  have hcsl := hch.len
  have hcells := H.rowCells hi
  have h3 : slA (some ⟨g, 0, none⟩) c 0 D.sz = some ⟨g, 0, none⟩ := by simp [slA, add_plain]
  have hlz : lo * D.sz ≤ xs.length * D.sz := Nat.mul_le_mul_right _ hlo
  have hol : (cs.take (lo * D.sz)).length = lo * inf.size := by rw [List.length_take, hsz]; omega
  have hold := run_firstCells_some (P := P) w.drew inf.size lo ⟨g, 0, none⟩ lo c (cs.take (lo * D.sz)) hol (fun q v hq => by
    rw [List.getElem?_take] at hq
    split at hq
    · have h2 : w.drew.cell? ⟨g, 0 + q, none⟩ = some v := hcells _ _ hq
      rw [add_plain]; exact h2
    · cases hq)
  have hbp := lt_of_blt hb0
  have hle : lo + k ≤ 140737488355328 := Nat.le_trans (Nat.le_mul_of_pos_right _ hbp) hb
  have hcap := nextslicecap_le hk
  have hcapb : Builtin.nextslicecap (lo + k) c * inf.bytes ≤ 281474976710656 := by
    rw [hby]
    have h1 := Nat.mul_le_mul_right bytes hcap
    have h2 : 2 * (lo + k) * bytes = 2 * ((lo + k) * bytes) := Nat.mul_assoc _ _ _
    omega
  have hkb : k * inf.bytes ≤ 281474976710656 := by
    rw [hby]
    have := Nat.mul_le_mul_right bytes (show k ≤ lo + k by omega)
    omega
  have hrun := Go.Lib.run_append_grow_zeros (P := P) w t tn ty e inf z kq kn (slElem_un hu) htn hq hz0 (some ⟨g, 0, none⟩) lo c (cs.take (lo * D.sz)) hold k hk0 (by rw [hsz]; exact lt_of_blt hpos) hk (by omega) hkb hcapb
  have hyl : ys.length = lo + k := by subst hys; simp; omega
  have hge := grownCap_ge w (lo + k) c e
  have hgm := grownCap_le_maxLen w (lo + k) c e (by simp only [maxLen]; omega)
  obtain ⟨gc, hgc⟩ : ∃ gc, grownCap w (lo + k) c e = gc := ⟨_, rfl⟩
  rw [hgc] at hrun hge hgm
  have hzk := chunks_zero (D := D) hzs hr (w := w) (ok := okS ok0 w0 L) k
  have hzr := chunks_zero (D := D) hzs hr (w := w) (ok := okS ok0 w0 L) (gc - (lo + k))
  have hzkl : (Builtin.zeroCells z.cells k).toList.length = k * D.sz := by rw [hzk.len]; simp
  have hzrl : (Builtin.zeroCells z.cells (gc - (lo + k))).toList.length = (gc - (lo + k)) * D.sz := by rw [hzr.len]; simp
  obtain ⟨nw, hnw⟩ : ∃ nw : Array Value, nw = (cs.take (lo * D.sz)).toArray ++ Builtin.zeroCells z.cells k ++ Builtin.zeroCells z.cells (gc - (lo + k)) := ⟨_, rfl⟩
  rw [← hnw, ← hyl] at hrun
  have hb1 := Sep.drew H
  refine OpR_val hw rfl hn (v := .slice (some ⟨w.heap.size, 0, none⟩) ys.length gc) (w' := w.drew.alloc (.cells nw e)) (by rw [h3] at hs; simp [execOp, resolve, invoke, builtin, hs, hx, hrun]) (h _ _ _ (cs.take (lo * D.sz) ++ (Builtin.zeroCells z.cells k).toList) ?_)
  have hchy : Chunks D w (okS ok0 w0 L) (cs.take (lo * D.sz) ++ (Builtin.zeroCells z.cells k).toList) ys := by subst hys; exact (hch.takeN lo).app hzk
  have hnl : nw.toList = (cs.take (lo * D.sz) ++ (Builtin.zeroCells z.cells k).toList) ++ (Builtin.zeroCells z.cells (gc - (lo + k))).toList := by subst hnw; simp
  have H2 := (H.drew.push (.row (.slice (some ⟨w.heap.size, 0, none⟩) ys.length gc) e D.sz ys.length (cs.take (lo * D.sz) ++ (Builtin.zeroCells z.cells k).toList)) (below_alloc _ (.cells nw e))
    ⟨hchy.len, .inr ⟨w.heap.size, gc, nw, rfl, Nat.zero_le _, heap_alloc_new _ _, by omega, hgm, by
      rw [← Array.length_toList, hnl, List.length_append, hchy.len, hzrl, ← Nat.add_mul]; congr 1; omega, by
      rw [hnl, ← hchy.len]; exact List.take_left' rfl⟩⟩ (by simp [Ent.blks, Value.ownBlock]) (by simp [Ent.blks, Value.ownBlock]))
  refine H2.also ?_
  refine (RE.chunks D _ _).keep (w := w) (ok := okS ok0 w0 L) hchy ⟨by simp, fun b ob ho hb' => ?_⟩
  have hlt := lt_of_heap ho
  refine ⟨⟨fun hb2 => ?_, hb'.2⟩, ?_⟩
  · rw [blks_append, List.mem_append] at hb2
    rcases hb2 with hb2 | hb2
    · exact hb'.1 hb2
    · simp [blks, Ent.blks, Value.ownBlock] at hb2; omega
  · exact heap_alloc_old _ _ (by simpa using hlt)
end
section
variable {P : Program} {r : Regs} {w : World} {dst : Option Tmp} {ty : TypeId} {pos : String} {af : Array Edge} {gd : Option (Nat × Bool)}
/-- A call that the model answers itself. -/
theorem x_callV {f : Operand} {fid : FuncId} {first cap : Array Value} {xs : List Operand} {ts : Array TypeId} {args : List Value} {v : Value} (hf : ev r f = .func (.func fid) first cap) (ha : first.toList ++ xs.map (ev r) ++ cap.toList = args)
    (hc : (callFunc fid args.toArray).run P w = .ok (.value v) w) :
    (execOp (ev r) ⟨dst, .call { callee := .value f, args := xs.toArray, argTypes := ts }, ty, pos, af, gd⟩).run P w = .ok (.value v) w := by
  subst ha
  have h : (first ++ (xs.toArray.map (ev r)) ++ cap) = (first.toList ++ xs.map (ev r) ++ cap.toList).toArray := by simp
  simp only [execOp, resolve, hf, Deferred.ofValue, Sem.run_bind, Sem.run_pure, Result.andThen_ok, invoke, h, hc]
theorem x_slice_lhm {x i i2 i3 : Operand} {t e : TypeId} {sz n c : Nat} {A : Option Addr} {k k2 k3 : IntKind} {j j2 j3 : Int} (hu : slElem P t = some e) (hz : szOf P e = some sz) (hx : ev r x = .slice A n c) (hi : ev r i = .int k j) (hi2 : ev r i2 = .int k2 j2) (hi3 : ev r i3 = .int k3 j3) (h0 : 0 ≤ j) (h1 : j ≤ j2) (h2 : j2 ≤ j3) (h3 : j3 ≤ (c : Int)) :
    (execOp (ev r) ⟨dst, .slice t x (some i) (some i2) (some i3), ty, pos, af, gd⟩).run P w = .ok (.value (.slice (slA A j3.toNat j.toNat sz) (j2.toNat - j.toNat) (j3.toNat - j.toNat))) w := by
  unfold szOf at hz
  obtain ⟨inf, hq, hsz⟩ := Option.map_eq_some_iff.1 hz
  have hu' := slElem_un hu
  have h4 : 0 ≤ j2 := Int.le_trans h0 h1
  have h5 : 0 ≤ j3 := Int.le_trans h4 h2
  have h6 : j ≤ (j2.toNat : Int) := by omega
  have h7 : j2 ≤ (j3.toNat : Int) := by omega
  have hb := run_sliceBound (P := P) w k j j2.toNat .slice3C h0 h6
  have hb2 := run_sliceBound (P := P) w k2 j2 j3.toNat .slice3B h4 h7
  simp [execOp, hx, hi, hi2, hi3, Instr.sliceAt, run_underlying hu', Instr.slice, Instr.sliceBounds, run_sliceBound (P := P) w k3 j3 c .slice3Acap h5 h3, hb, hb2, sizeOf, typeInfo, hq, hsz, slA]
theorem x_cap {x : Operand} {t e : TypeId} {A : Option Addr} {n c : Nat} (hu : slElem P t = some e) (hx : ev r x = .slice A n c) :
    (execOp (ev r) ⟨dst, .call { callee := .builtin .cap, args := #[x], argTypes := #[t] }, ty, pos, af, gd⟩).run P w = .ok (.value (.int .i64 (c : Int))) w := by
  simp [execOp, resolve, invoke, builtin, hx, Builtin.cap_, run_underlying (slElem_un hu), goInt]
end
section
variable {P : Program} {w : World}
/-- slices.overlaps, of an object that stands and a row of the call's own: they lie apart. -/
theorem overlaps_own {fid : FuncId} {fn : Func} {t tR e sz vb m vc o lb cb g c : Nat} {cv cur : List Value} (hf : P.funcs[fid]? = some fn) (hname : (fn.name == "runtime.NumGoroutine") = false) (hb : fn.body.isNone = true) (hn : Extern.findNext fn = none)
    (he : Extern.find fn = some (Extern.SlicesOverlaps.overlaps #[t, t] #[tR])) (hu : slElem P t = some e) (hz : szOf P e = some sz)
    (hv : w.heap[vb]? = some (.cells cv.toArray e (0, 0))) (hg : w.heap[g]? = some (.cells cur.toArray e (0, 0))) (hne : vb ≠ g) (hc : cur ≠ []) :
    (callFunc fid #[.slice (some ⟨vb, 0, none⟩) m vc, .slice (some ⟨g, o, none⟩) lb cb]).run P w = .ok (.value (.bool false)) w := by
  have hsz : ∀ w, (Go.sizeOf e).run P w = .ok sz w := fun w => by
    unfold szOf at hz
    obtain ⟨inf, hq, hsz⟩ := Option.map_eq_some_iff.1 hz
    simp [sizeOf, typeInfo, hq, hsz]
  rw [run_callFunc_extern hf hname hb hn he, Go.Lib.run_overlaps_apart w t tR e (slElem_un hu) sz hsz ⟨vb, 0, none⟩ ⟨g, o, none⟩ m vc lb cb hne e e cv.toArray.size cur.toArray.size (by simp [World.shape?, hv]) (by simp [World.shape?, hg]) (by simpa using hc) (by simp [World.frozen?, hv]) (by simp [World.frozen?, hv])]
  rfl
end
/-- The heap has had so many blocks. -/
def RE.sz (m : Nat) : RE := ⟨fun w _ => m ≤ w.heap.size, fun h hm => Nat.le_trans h hm.size⟩
/-- What has come since a time has come since an earlier one. -/
theorem Sep.frLe {α : Type} {K : Kd α} {ok0 : Okp} {w0 w : World} {L : List Ent} {Rs : List RE} {i c m1 m0 : Nat} {A : Option Addr} {xs : List α} (h : Sep ok0 w0 w L Rs) (hi : Rs[i]? = some (RE.fr m1 K A c xs)) (hm : m0 ≤ m1) : Sep ok0 w0 w L (Rs.set i (RE.fr m0 K A c xs)) :=
  h.setRe i (Rd.weak (h.frRd hi) fun b ob _ hb => ⟨hb.1, Nat.le_trans hm hb.2.1, hb.2.2⟩)
end Go.Proofs.YtobkigllalbkiaaV
namespace Go.Proofs.YtobkigllalbkiaaV
section
variable {P : Program} {ops : Array Oper} {n : Nat} {r : Regs} {w : World} {M : Regs → World → Prop} {S : World → Prop} {p : List Mv}
theorem RL_p {o : Oper} {rest : List Oper} {d : Nat} {v : Value} (hrun : (execOp (ev r) o).run P w = .ok (.value v) w) (h : RL P ops n rest M (upd r d v) w) (hw : wantedR ops r o = true := by exact wn0 rfl) (hd : o.dst = some d := by rfl) (hn : Nat.blt d n = true := by rfl) :
    RL P ops n (o :: rest) M r w := RL_pure hw hd hn hrun h
end
end Go.Proofs.YtobkigllalbkiaaV

/- Small words on models, in plain Lean: operations that are told, loops, tests over lists. -/
set_option linter.unusedVariables false
set_option linter.unusedSimpArgs false
namespace Go.Proofs.YtobkigllalbkiaaV.L
variable {α β : Type}
theorem ck_in {x : Int} {k : Int → Option α} (h0 : -9223372036854775808 ≤ x) (h1 : x ≤ 9223372036854775807) : ck x k = k x := if_pos ⟨h0, h1⟩
theorem ck_nat {n : Nat} {k : Int → Option α} (h : n ≤ 9223372036854775807) : ck (n : Int) k = k n := ck_in (by omega) (by omega)
theorem cast_succ (i : Nat) : (i : Int) + 1 = ((i + 1 : Nat) : Int) := by push_cast; rfl
theorem ck_succ {i : Nat} {k : Int → Option α} (h : i < 9223372036854775807) : ck ((i : Int) + 1) k = k ((i + 1 : Nat) : Int) := by rw [cast_succ]; exact ck_nat (by omega)
theorem idx_in {l : List α} {i : Int} {a : α} {k : α → Option β} (h0 : 0 ≤ i) (h : l[i.toNat]? = some a) : idx l i k = k a := by simp [idx, h0, h]
theorem idx_nat {l : List α} {i : Nat} {a : α} {k : α → Option β} (h : l[i]? = some a) : idx l (i : Int) k = k a := idx_in (by omega) (by simpa using h)
theorem apd_in {bytes : Nat} {l : List α} {x : α} {k : List α → Option β} (h : (l.length + 1) * bytes ≤ 140737488355328) : apd bytes l x k = k (l ++ [x]) := if_pos h
theorem apds_in {bytes : Nat} {l m : List α} {k : List α → Option β} (h : (l.length + m.length) * bytes ≤ 140737488355328) : apds bytes l m k = k (l ++ m) := if_pos h
theorem mks_in {bytes : Nat} {n : Int} {z : α} {k : List α → Option β} (h0 : 0 ≤ n) (h : n * bytes ≤ 140737488355328) : mks bytes n z k = k (List.replicate n.toNat z) := if_pos ⟨h0, h⟩
theorem slg_in {a b : Int} {k : Option α} (h0 : 0 ≤ a) (h : a ≤ b) : slg a b k = k := if_pos ⟨h0, h⟩
theorem lete_in {x : α} {k : α → Option β} : lete x k = k x := rfl
theorem lt_get {l : List α} {i : Nat} (h : i < l.length) : l[i]? = some l[i] := List.getElem?_eq_getElem h
theorem dec_t {i n : Nat} (h : i < n) : decide ((i : Int) < (n : Int)) = true := decide_eq_true (by omega)
theorem dec_f {i n : Nat} (h : ¬ i < n) : decide ((i : Int) < (n : Int)) = false := decide_eq_false (by omega)
/-- A loop by fuel that goes up to n: I holds as it goes, P of what it tells. -/
theorem loop {σ : Type} (n : Nat) (F : Nat → σ → Option α) (body : (σ → Option α) → σ → Option α) (hF : ∀ k, F (k + 1) = body (F k)) (I : Nat → σ → Prop) (P : Option α → Prop)
    (step : ∀ i s (rec : σ → Option α), i < n → I i s → (∀ s', I (i + 1) s' → P (rec s')) → P (body rec s)) (fin : ∀ s rec, I n s → P (body rec s)) :
    ∀ k i s, i ≤ n → n < i + k → I i s → P (F k s)
  | 0, i, s, h1, h2, _ => by omega
  | k + 1, i, s, h1, h2, h3 => by
    rw [hF]
    by_cases h : i < n
    · exact step i s _ h h3 fun s' h' => loop n F body hF I P step fin k (i + 1) s' h (by omega) h'
    · obtain rfl : i = n := by omega
      exact fin s _ h3
/-- A test over a list that looks at nothing else. -/
theorem any_pure {f : α → Option Bool} {p : α → Bool} : ∀ (l : List α) (i : Int), (∀ x ∈ l, f x = some (p x)) →
    anyS (fun (_ : Unit) (x : α) => (f x).map fun b => (b, ())) () i l = some ((match l.findIdx? p with | some j => i + (j : Int) | none => -1), ())
  | [], i, _ => rfl
  | x :: l, i, h => by
    unfold anyS
    rw [h x (by simp), Option.map_some, Option.bind_some, List.findIdx?_cons]
    cases hp : p x with
    | true => simp
    | false =>
      simp only [cond_false, Bool.false_eq_true, if_false]
      rw [any_pure l (i + 1) fun y hy => h y (by simp [hy])]
      cases l.findIdx? p with
      | none => rfl
      | some j => simp only [Option.map_some]; rw [show i + 1 + (j : Int) = i + ((j + 1 : Nat) : Int) by push_cast; omega]
theorem any_some {f : α → Option Bool} {p : α → Bool} (l : List α) (h : ∀ x ∈ l, f x = some (p x)) :
    (anyS (fun (_ : Unit) (x : α) => (f x).map fun b => (b, ())) () 0 l).bind (fun v => some (decide (0 ≤ v.1))) = some (l.any p) := by
  rw [any_pure l 0 h, Option.bind_some]
  cases hf : l.findIdx? p with
  | none =>
    rw [List.findIdx?_eq_none_iff] at hf
    have : l.any p = false := by rw [List.any_eq_false]; exact fun x hx => by simp [hf x hx]
    rw [this]; rfl
  | some j =>
    have hj := List.findIdx?_eq_some_iff_getElem.1 hf
    obtain ⟨hl, hp, _⟩ := hj
    have : l.any p = true := List.any_eq_true.2 ⟨_, List.getElem_mem hl, hp⟩
    rw [this]
    simp only [Option.some.injEq, decide_eq_true_eq]; omega
end Go.Proofs.YtobkigllalbkiaaV.L

/- Closed facts of the types of the program, and the models of its structs. Written by program. -/
set_option linter.unusedVariables false
namespace Go.Proofs.YtobkigllalbkiaaV.M
open Go.RowKit Go.Proofs.YtobkigllalbkiaaV
structure S_Slot where
  Gen : Int
  Live : Bool
def k_Slot : Kd S_Slot := Kd.flat 2 (fun x => [.int .i64 x.Gen, .bool x.Live]) (fun _ => rfl) (fun x v hv => by simp at hv; rcases hv with rfl | rfl <;> rfl)
structure S_Arena where
  Slots : (List S_Slot)
def k_Arena : Kd S_Arena where
  sz := 1
  rel := fun w ok cs x => ∃ (A0 : Option Addr) (c0 : Nat), cs = [.slice A0 x.Slots.length c0] ∧ Rd k_Slot w ok A0 c0 x.Slots
  len := by rintro w ok cs x ⟨A0, c0, rfl, h0⟩; rfl
  one := by
    rintro w ok cs x ⟨A0, c0, rfl, h0⟩ v hv
    simp at hv
    subst hv; rfl
  keep := by rintro w w' ok ok' cs x ⟨A0, c0, rfl, h0⟩ hm; exact ⟨A0, c0, rfl, h0.keep hm⟩
structure S_Handle where
  Slot : Int
  Gen : Int
def k_Handle : Kd S_Handle := Kd.flat 2 (fun x => [.int .i64 x.Slot, .int .i64 x.Gen]) (fun _ => rfl) (fun x v hv => by simp at hv; rcases hv with rfl | rfl <;> rfl)
structure S_Graph where
  Arena : S_Arena
  Kids : (List (List S_Handle))
def k_Graph : Kd S_Graph where
  sz := 2
  rel := fun w ok cs x => ∃ (A0 : Option Addr) (c0 : Nat), ∃ (A1 : Option Addr) (c1 : Nat), cs = [.slice A0 x.Arena.Slots.length c0, .slice A1 x.Kids.length c1] ∧ Rd k_Slot w ok A0 c0 x.Arena.Slots ∧ Rd (Kd.slice k_Handle) w ok A1 c1 x.Kids
  len := by rintro w ok cs x ⟨A0, c0, A1, c1, rfl, h0, h1⟩; rfl
  one := by
    rintro w ok cs x ⟨A0, c0, A1, c1, rfl, h0, h1⟩ v hv
    simp at hv
    rcases hv with rfl | rfl <;> rfl
  keep := by rintro w w' ok ok' cs x ⟨A0, c0, A1, c1, rfl, h0, h1⟩ hm; exact ⟨A0, c0, A1, c1, rfl, h0.keep hm, h1.keep hm⟩
theorem ag76 : aggSz Try.prog 76 = some 1 := by kernel_rfl
theorem ag79 : aggSz Try.prog 79 = some 2 := by kernel_rfl
theorem ag81 : aggSz Try.prog 81 = some 2 := by kernel_rfl
theorem ag96 : aggSz Try.prog 96 = some 2 := by kernel_rfl
theorem by4 : bytesOf Try.prog 4 = some 1 := by kernel_rfl
theorem by81 : bytesOf Try.prog 81 = some 16 := by kernel_rfl
theorem by87 : bytesOf Try.prog 87 = some 24 := by kernel_rfl
theorem by96 : bytesOf Try.prog 96 = some 16 := by kernel_rfl
theorem cf100 (args : Array Value) (w : World) : (callFunc 100 args).run Try.prog w = .ok (.enter 100 args) w := run_enter Try.func100 rfl (by kernel_rfl) args w
theorem cf101 (args : Array Value) (w : World) : (callFunc 101 args).run Try.prog w = .ok (.enter 101 args) w := run_enter Try.func101 rfl (by kernel_rfl) args w
theorem cf102 (args : Array Value) (w : World) : (callFunc 102 args).run Try.prog w = .ok (.enter 102 args) w := run_enter Try.func102 rfl (by kernel_rfl) args w
theorem cf103 (args : Array Value) (w : World) : (callFunc 103 args).run Try.prog w = .ok (.enter 103 args) w := run_enter Try.func103 rfl (by kernel_rfl) args w
theorem cf104 (args : Array Value) (w : World) : (callFunc 104 args).run Try.prog w = .ok (.enter 104 args) w := run_enter Try.func104 rfl (by kernel_rfl) args w
theorem cf105 (args : Array Value) (w : World) : (callFunc 105 args).run Try.prog w = .ok (.enter 105 args) w := run_enter Try.func105 rfl (by kernel_rfl) args w
theorem cf106 (args : Array Value) (w : World) : (callFunc 106 args).run Try.prog w = .ok (.enter 106 args) w := run_enter Try.func106 rfl (by kernel_rfl) args w
theorem cf107 (args : Array Value) (w : World) : (callFunc 107 args).run Try.prog w = .ok (.enter 107 args) w := run_enter Try.func107 rfl (by kernel_rfl) args w
theorem cf108 (args : Array Value) (w : World) : (callFunc 108 args).run Try.prog w = .ok (.enter 108 args) w := run_enter Try.func108 rfl (by kernel_rfl) args w
theorem cf120 (args : Array Value) (w : World) : (callFunc 120 args).run Try.prog w = .ok (.enter 120 args) w := run_enter Try.func120 rfl (by kernel_rfl) args w
theorem cf121 (args : Array Value) (w : World) : (callFunc 121 args).run Try.prog w = .ok (.enter 121 args) w := run_enter Try.func121 rfl (by kernel_rfl) args w
theorem cf122 (args : Array Value) (w : World) : (callFunc 122 args).run Try.prog w = .ok (.enter 122 args) w := run_enter Try.func122 rfl (by kernel_rfl) args w
theorem cf123 (args : Array Value) (w : World) : (callFunc 123 args).run Try.prog w = .ok (.enter 123 args) w := run_enter Try.func123 rfl (by kernel_rfl) args w
theorem cf124 (args : Array Value) (w : World) : (callFunc 124 args).run Try.prog w = .ok (.enter 124 args) w := run_enter Try.func124 rfl (by kernel_rfl) args w
theorem cf125 (args : Array Value) (w : World) : (callFunc 125 args).run Try.prog w = .ok (.enter 125 args) w := run_enter Try.func125 rfl (by kernel_rfl) args w
theorem cf126 (args : Array Value) (w : World) : (callFunc 126 args).run Try.prog w = .ok (.enter 126 args) w := run_enter Try.func126 rfl (by kernel_rfl) args w
theorem cf127 (args : Array Value) (w : World) : (callFunc 127 args).run Try.prog w = .ok (.enter 127 args) w := run_enter Try.func127 rfl (by kernel_rfl) args w
theorem cf128 (args : Array Value) (w : World) : (callFunc 128 args).run Try.prog w = .ok (.enter 128 args) w := run_enter Try.func128 rfl (by kernel_rfl) args w
theorem cf129 (args : Array Value) (w : World) : (callFunc 129 args).run Try.prog w = .ok (.enter 129 args) w := run_enter Try.func129 rfl (by kernel_rfl) args w
theorem cf130 (args : Array Value) (w : World) : (callFunc 130 args).run Try.prog w = .ok (.enter 130 args) w := run_enter Try.func130 rfl (by kernel_rfl) args w
theorem cf38 (args : Array Value) (w : World) : (callFunc 38 args).run Try.prog w = .ok (.enter 38 args) w := run_enter Try.func38 rfl (by kernel_rfl) args w
theorem cf40 (args : Array Value) (w : World) : (callFunc 40 args).run Try.prog w = .ok (.enter 40 args) w := run_enter Try.func40 rfl (by kernel_rfl) args w
theorem cf41 (args : Array Value) (w : World) : (callFunc 41 args).run Try.prog w = .ok (.enter 41 args) w := run_enter Try.func41 rfl (by kernel_rfl) args w
theorem cf43 (args : Array Value) (w : World) : (callFunc 43 args).run Try.prog w = .ok (.enter 43 args) w := run_enter Try.func43 rfl (by kernel_rfl) args w
theorem cf44 (args : Array Value) (w : World) : (callFunc 44 args).run Try.prog w = .ok (.enter 44 args) w := run_enter Try.func44 rfl (by kernel_rfl) args w
theorem cf45 (args : Array Value) (w : World) : (callFunc 45 args).run Try.prog w = .ok (.enter 45 args) w := run_enter Try.func45 rfl (by kernel_rfl) args w
theorem cf48 (args : Array Value) (w : World) : (callFunc 48 args).run Try.prog w = .ok (.enter 48 args) w := run_enter Try.func48 rfl (by kernel_rfl) args w
theorem cf49 (args : Array Value) (w : World) : (callFunc 49 args).run Try.prog w = .ok (.enter 49 args) w := run_enter Try.func49 rfl (by kernel_rfl) args w
theorem cf50 (args : Array Value) (w : World) : (callFunc 50 args).run Try.prog w = .ok (.enter 50 args) w := run_enter Try.func50 rfl (by kernel_rfl) args w
theorem cf51 (args : Array Value) (w : World) : (callFunc 51 args).run Try.prog w = .ok (.enter 51 args) w := run_enter Try.func51 rfl (by kernel_rfl) args w
theorem cf52 (args : Array Value) (w : World) : (callFunc 52 args).run Try.prog w = .ok (.enter 52 args) w := run_enter Try.func52 rfl (by kernel_rfl) args w
theorem cf53 (args : Array Value) (w : World) : (callFunc 53 args).run Try.prog w = .ok (.enter 53 args) w := run_enter Try.func53 rfl (by kernel_rfl) args w
theorem cf54 (args : Array Value) (w : World) : (callFunc 54 args).run Try.prog w = .ok (.enter 54 args) w := run_enter Try.func54 rfl (by kernel_rfl) args w
theorem cf55 (args : Array Value) (w : World) : (callFunc 55 args).run Try.prog w = .ok (.enter 55 args) w := run_enter Try.func55 rfl (by kernel_rfl) args w
theorem cf56 (args : Array Value) (w : World) : (callFunc 56 args).run Try.prog w = .ok (.enter 56 args) w := run_enter Try.func56 rfl (by kernel_rfl) args w
theorem cf57 (args : Array Value) (w : World) : (callFunc 57 args).run Try.prog w = .ok (.enter 57 args) w := run_enter Try.func57 rfl (by kernel_rfl) args w
theorem cf79 (args : Array Value) (w : World) : (callFunc 79 args).run Try.prog w = .ok (.enter 79 args) w := run_enter Try.func79 rfl (by kernel_rfl) args w
theorem cf80 (args : Array Value) (w : World) : (callFunc 80 args).run Try.prog w = .ok (.enter 80 args) w := run_enter Try.func80 rfl (by kernel_rfl) args w
theorem cf81 (args : Array Value) (w : World) : (callFunc 81 args).run Try.prog w = .ok (.enter 81 args) w := run_enter Try.func81 rfl (by kernel_rfl) args w
theorem cf82 (args : Array Value) (w : World) : (callFunc 82 args).run Try.prog w = .ok (.enter 82 args) w := run_enter Try.func82 rfl (by kernel_rfl) args w
theorem cf83 (args : Array Value) (w : World) : (callFunc 83 args).run Try.prog w = .ok (.enter 83 args) w := run_enter Try.func83 rfl (by kernel_rfl) args w
theorem cf84 (args : Array Value) (w : World) : (callFunc 84 args).run Try.prog w = .ok (.enter 84 args) w := run_enter Try.func84 rfl (by kernel_rfl) args w
theorem cf85 (args : Array Value) (w : World) : (callFunc 85 args).run Try.prog w = .ok (.enter 85 args) w := run_enter Try.func85 rfl (by kernel_rfl) args w
theorem cf86 (args : Array Value) (w : World) : (callFunc 86 args).run Try.prog w = .ok (.enter 86 args) w := run_enter Try.func86 rfl (by kernel_rfl) args w
theorem cf88 (args : Array Value) (w : World) : (callFunc 88 args).run Try.prog w = .ok (.enter 88 args) w := run_enter Try.func88 rfl (by kernel_rfl) args w
theorem cf89 (args : Array Value) (w : World) : (callFunc 89 args).run Try.prog w = .ok (.enter 89 args) w := run_enter Try.func89 rfl (by kernel_rfl) args w
theorem cf90 (args : Array Value) (w : World) : (callFunc 90 args).run Try.prog w = .ok (.enter 90 args) w := run_enter Try.func90 rfl (by kernel_rfl) args w
theorem cf91 (args : Array Value) (w : World) : (callFunc 91 args).run Try.prog w = .ok (.enter 91 args) w := run_enter Try.func91 rfl (by kernel_rfl) args w
theorem cf92 (args : Array Value) (w : World) : (callFunc 92 args).run Try.prog w = .ok (.enter 92 args) w := run_enter Try.func92 rfl (by kernel_rfl) args w
theorem cf93 (args : Array Value) (w : World) : (callFunc 93 args).run Try.prog w = .ok (.enter 93 args) w := run_enter Try.func93 rfl (by kernel_rfl) args w
theorem cf94 (args : Array Value) (w : World) : (callFunc 94 args).run Try.prog w = .ok (.enter 94 args) w := run_enter Try.func94 rfl (by kernel_rfl) args w
theorem cf95 (args : Array Value) (w : World) : (callFunc 95 args).run Try.prog w = .ok (.enter 95 args) w := run_enter Try.func95 rfl (by kernel_rfl) args w
theorem cf96 (args : Array Value) (w : World) : (callFunc 96 args).run Try.prog w = .ok (.enter 96 args) w := run_enter Try.func96 rfl (by kernel_rfl) args w
theorem cf97 (args : Array Value) (w : World) : (callFunc 97 args).run Try.prog w = .ok (.enter 97 args) w := run_enter Try.func97 rfl (by kernel_rfl) args w
theorem cf98 (args : Array Value) (w : World) : (callFunc 98 args).run Try.prog w = .ok (.enter 98 args) w := run_enter Try.func98 rfl (by kernel_rfl) args w
theorem cf99 (args : Array Value) (w : World) : (callFunc 99 args).run Try.prog w = .ok (.enter 99 args) w := run_enter Try.func99 rfl (by kernel_rfl) args w
theorem ep81 : structOf Try.prog 81 = some [(.int .i64, 0), (.int .i64, 1)] := by kernel_rfl
theorem eg81 : (Try.prog).eqGuardType (Try.prog).depth 81 = false := by kernel_rfl
theorem ep96 : structOf Try.prog 96 = some [(.int .i64, 0), (.bool, 1)] := by kernel_rfl
theorem eg96 : (Try.prog).eqGuardType (Try.prog).depth 96 = false := by kernel_rfl
theorem fo76_0 : fieldOff Try.prog 76 0 = some 0 := by kernel_rfl
theorem fo79_0 : fieldOff Try.prog 79 0 = some 0 := by kernel_rfl
theorem fo79_1 : fieldOff Try.prog 79 1 = some 1 := by kernel_rfl
theorem fo81_0 : fieldOff Try.prog 81 0 = some 0 := by kernel_rfl
theorem fo81_1 : fieldOff Try.prog 81 1 = some 1 := by kernel_rfl
theorem fo96_0 : fieldOff Try.prog 96 0 = some 0 := by kernel_rfl
theorem fo96_1 : fieldOff Try.prog 96 1 = some 1 := by kernel_rfl
theorem is3 : (Try.prog.underlying 3).isSome = true := by kernel_rfl
theorem mixed0 : Try.prog.follows .mixedOrders = true := by kernel_rfl
theorem mp144 : mapOf Try.prog 144 = some (81, 4) := by kernel_rfl
theorem sc139 : scal Try.prog 139 = true := by kernel_rfl
theorem sc144 : scal Try.prog 144 = true := by kernel_rfl
theorem sc3 : scal Try.prog 3 = true := by kernel_rfl
theorem sc4 : scal Try.prog 4 = true := by kernel_rfl
theorem sc74 : scal Try.prog 74 = true := by kernel_rfl
theorem sc77 : scal Try.prog 77 = true := by kernel_rfl
theorem sc87 : scal Try.prog 87 = true := by kernel_rfl
theorem sl155 : slElem Try.prog 155 = some 4 := by kernel_rfl
theorem sl74 : slElem Try.prog 74 = some 96 := by kernel_rfl
theorem sl77 : slElem Try.prog 77 = some 87 := by kernel_rfl
theorem sl87 : slElem Try.prog 87 = some 81 := by kernel_rfl
theorem sz139 : szOf Try.prog 139 = some 1 := by kernel_rfl
theorem sz144 : szOf Try.prog 144 = some 1 := by kernel_rfl
theorem sz3 : szOf Try.prog 3 = some 1 := by kernel_rfl
theorem sz4 : szOf Try.prog 4 = some 1 := by kernel_rfl
theorem sz74 : szOf Try.prog 74 = some 1 := by kernel_rfl
theorem sz76 : szOf Try.prog 76 = some 1 := by kernel_rfl
theorem sz77 : szOf Try.prog 77 = some 1 := by kernel_rfl
theorem sz79 : szOf Try.prog 79 = some 2 := by kernel_rfl
theorem sz81 : szOf Try.prog 81 = some 2 := by kernel_rfl
theorem sz87 : szOf Try.prog 87 = some 1 := by kernel_rfl
theorem sz96 : szOf Try.prog 96 = some 2 := by kernel_rfl
theorem un4 : Try.prog.underlying 4 = some .bool := by kernel_rfl
theorem ze144 : zeroOf Try.prog 144 = some (.map none) := by kernel_rfl
theorem ze4 : zeroOf Try.prog 4 = some (.bool false) := by kernel_rfl
theorem ze76 : zeroOf Try.prog 76 = some (.agg #[.slice none 0 0]) := by kernel_rfl
theorem ze79 : zeroOf Try.prog 79 = some (.agg #[.slice none 0 0, .slice none 0 0]) := by kernel_rfl
theorem ze81 : zeroOf Try.prog 81 = some (.agg #[.int .i64 0, .int .i64 0]) := by kernel_rfl
theorem ze87 : zeroOf Try.prog 87 = some (.slice none 0 0) := by kernel_rfl
theorem ze96 : zeroOf Try.prog 96 = some (.agg #[.int .i64 0, .bool false]) := by kernel_rfl
theorem zf139 : zeroOf Try.prog 139 = some .nilFunc := by kernel_rfl
end Go.Proofs.YtobkigllalbkiaaV.M
namespace Go.Proofs.YtobkigllalbkiaaV.M
open Go.RowKit Go.Proofs.YtobkigllalbkiaaV
abbrev GRB (b : Nat) (A : Option Addr) (c : Nat) (B : Option Addr) (d : Nat) (g : S_Graph) : Ent := .blk b 79 [.slice A g.Arena.Slots.length c, .slice B g.Kids.length d]
abbrev HNB (b : Nat) (h : S_Handle) : Ent := .blk b 81 [.int .i64 h.Slot, .int .i64 h.Gen]
abbrev RDS (A : Option Addr) (c : Nat) (g : S_Graph) : RE := RE.rd k_Slot A c g.Arena.Slots
abbrev RDK (A : Option Addr) (c : Nat) (g : S_Graph) : RE := RE.rd (Kd.slice k_Handle) A c g.Kids
abbrev LTS (w : World) (A : Option Addr) (c : Nat) (g : S_Graph) : RE := RE.lt w.heap.size k_Slot A c g.Arena.Slots
abbrev LTK (w : World) (A : Option Addr) (c : Nat) (g : S_Graph) : RE := RE.lt w.heap.size (Kd.slice k_Handle) A c g.Kids
abbrev FRS (w : World) (A : Option Addr) (c : Nat) (g : S_Graph) : RE := RE.fr w.heap.size k_Slot A c g.Arena.Slots
abbrev FRK (w : World) (A : Option Addr) (c : Nat) (g : S_Graph) : RE := RE.fr w.heap.size (Kd.slice k_Handle) A c g.Kids
end Go.Proofs.YtobkigllalbkiaaV.M

/- A plain Lean function that answers as the Go function does (none: not told), and the proof that a call answers so. Written by program. -/
set_option linter.unusedVariables false
namespace Go.Proofs.YtobkigllalbkiaaV.M
open Go.RowKit Go.Proofs.YtobkigllalbkiaaV

set_option maxRecDepth 100000 in
set_option maxHeartbeats 400000 in
/-- slices.IndexFunc: whatever function is handed to it; S: what holds of memory as it goes on -/
theorem c121 {σ : Type} (S : σ → World → Prop) (p : σ → S_Handle → Option (Bool × σ)) (fid : Nat) (first caps : List Value) (a0 : List S_Handle) (A1 : Option Addr) (cp2 : Nat)
  (hR : ∀ st w, S st w → Rd k_Handle w okT A1 cp2 a0) (hcf : ∀ (args : Array Value) (w : World), (callFunc fid args).run Try.prog w = .ok (.enter fid args) w)
  (hf : ∀ (st : σ) (w : World) (x : S_Handle) (q : Bool × σ), S st w → p st x = some q → Calls Try.prog fid (first ++ [Value.agg #[.int .i64 x.Slot, .int .i64 x.Gen]] ++ caps).toArray w (fun e w' => e = .returned (tup [.bool q.1]) ∧ S q.2 w'))
  (st0 : σ) (w : World) (h0 : S st0 w) (res : Int × σ) (hm : anyS p st0 0 a0 = some res) :
  Calls Try.prog 121 #[.slice A1 a0.length cp2, .func (.func fid) first.toArray caps.toArray] w (fun e w' => e = .returned (tup [.int .i64 res.1]) ∧ S res.2 w') := by
 refine calls_W (args := [.slice A1 a0.length cp2, .func (.func fid) first.toArray caps.toArray]) Try.func121 rfl Try.ntmps121 Try.results121 rfl fun r hr => ?_
 obtain ⟨r1, rfl⟩ := regen (r := r) [(0, .slice A1 a0.length cp2), (1, .func (.func fid) first.toArray caps.toArray)] ⟨hr 0 _ rfl, hr 1 _ rfl, trivial⟩
 have hlen : (a0.length : Int) ≤ 9223372036854775807 := by have h1 := (hR _ _ h0).1; have h2 := (hR _ _ h0).2.1; omega
 refine W_seq ?_
 refine W_region ?_
 refine RL_pure (by exact wn0 rfl) (by rfl) (by rfl) (x_assign (v := .int .i64 0) (by rfl)) ?_
 refine RL_nil ?_
 refine W_seq ?_
 refine W_seq ?_
 refine W_region ?_
 refine RL_pure (by exact wn0 rfl) (by rfl) (by rfl) (x_move (v := .slice A1 a0.length cp2) (by rfl)) ?_
 refine RL_pure (by exact wn0 rfl) (by rfl) (by rfl) (x_len sl87 (by rfl)) ?_
 refine RL_pure (by exact wn0 rfl) (by rfl) (by rfl) (x_move (v := .int .i64 0) (by rfl)) ?_
 refine RL_nil ?_
 refine W_block ?_
 refine W_loop (fun k r' w' => ∃ (i : Nat) (st : σ), i ≤ a0.length ∧ a0.length < i + k ∧ anyS p st i (a0.drop i) = some res ∧ Agr [(0, .slice A1 a0.length cp2), (1, .func (.func fid) first.toArray caps.toArray), (7, .int .i64 (a0.length : Int)), (8, .int .i64 (i : Int))] r' ∧ S st w') (a0.length + 1) ?_ ?_
 ·exact ⟨0, st0, Nat.zero_le _, by omega, hm, ⟨rfl, rfl, rfl, rfl, trivial⟩, h0⟩
 ·rintro k r' w' ⟨i, st, hi1, hi2, hm, hA, hS⟩
  obtain ⟨r5, rfl⟩ := regen _ hA; clear hA
  obtain ⟨w6, rfl⟩ : ∃ W : World, W = w' := ⟨_, rfl⟩
  refine W_seq ?_
  refine W_region ?_
  refine RL_pure (by exact wn0 rfl) (by rfl) (by rfl) (x_lss (by rfl) (by rfl)) ?_
  refine RL_nil ?_
  refine W_seq ?_
  refine W_cond (by rfl) (fun hb => ?_) (fun hb => ?_)
  ·have hlt : i < a0.length := by have := of_decide_eq_true hb; omega
   have he : a0[i]? = some a0[i] := List.getElem?_eq_getElem hlt
   rw [List.drop_eq_getElem_cons hlt] at hm
   generalize a0[i] = el at he hm
   unfold anyS at hm
   obtain ⟨q, hq, hm⟩ := bind_some hm
   have hRd := hR _ _ hS
   refine W_skip ?_
   refine W_seq ?_
   refine W_block ?_
   refine W_seq ?_
   refine W_region ?_
   refine RL_pure (by exact wn0 rfl) (by rfl) (by rfl) (x_move (v := .int .i64 (i : Int)) (by rfl)) ?_
   refine RL_pure (by exact wn0 rfl) (by rfl) (by rfl) (x_assign (v := .int .i64 (i : Int)) (by rfl)) ?_
   refine RL_nil ?_
   refine W_seq ?_
   refine W_region ?_
   refine RL_pure (by exact wn0 rfl) (by rfl) (by rfl) (x_move (v := .func (.func fid) first.toArray caps.toArray) (by rfl)) ?_
   refine RL_pure (by exact wn0 rfl) (by rfl) (by rfl) (x_move (v := .slice A1 a0.length cp2) (by rfl)) ?_
   refine RL_pure (by exact wn0 rfl) (by rfl) (by rfl) (x_move (v := .int .i64 (i : Int)) (by rfl)) ?_
   obtain ⟨g12, o13, hA11⟩ := hRd.addr he
   have he2 : a0[((i : Int)).toNat]? = some el := by simpa using he
   refine RL_pure (by exact wn0 rfl) (by rfl) (by rfl) (x_indexAddr sl87 sz81 (by rfl) (by rfl) hA11 (by omega) (by omega)) ?_
   refine RL_pure (by exact wn0 rfl) (by rfl) (by rfl) (x_loadA (j := 0) (vs := [.int .i64 el.Slot, .int .i64 el.Gen]) ag81 (by rfl) (Rd.flatAt (n := 2) hRd hA11 he2) (by rfl) (by rfl)) ?_
   refine RL_cons (O_call (by exact wn0 rfl) (by rfl) (by rfl) (x_callL (by rfl) (args := first ++ [Value.agg #[.int .i64 el.Slot, .int .i64 el.Gen]] ++ caps) (by rfl) (hcf _ _)) (hf st w6 el q hS hq) ?_)
   rintro e w16 ⟨rfl, hS⟩
   refine ⟨_, rfl, ?_⟩
   show RL _ _ _ _ _ _ _
   refine RL_nil ?_
   refine W_cond (by rfl) (fun hb => ?_) (fun hb => ?_)
   ·have hm := cond_t hb hm
    refine W_seq ?_
    refine W_region ?_
    refine RL_pure (by exact wn0 rfl) (by rfl) (by rfl) (x_move (v := .int .i64 (i : Int)) (by rfl)) ?_
    refine RL_pure (by exact wn0 rfl) (by rfl) (by rfl) (x_assign (v := .int .i64 (i : Int)) (by rfl)) ?_
    refine RL_nil ?_
    refine W_ret ?_
    obtain rfl := Option.some.inj hm
    exact ⟨[.int .i64 (i : Int)], (.tmp (by rfl) rfl), rfl, hS⟩
   ·have hm := cond_f hb hm
    refine W_skip ?_
    refine W_region ?_
    have hw1 : IntKind.i64.wrap ((i : Int) + 1) = ((i + 1 : Nat) : Int) := by rw [wrap_i64_in (by omega)]; push_cast; rfl
    refine RL_pure (by exact wn0 rfl) (by rfl) (by rfl) (x_add (by rfl) (by rfl) hw1) ?_
    refine RL_pure (by exact wn0 rfl) (by rfl) (by rfl) (x_move (v := .int .i64 ((i + 1 : Nat) : Int)) (by rfl)) ?_
    refine RL_nil ?_
    exact ⟨k - 1, by omega, i + 1, q.2, by omega, by omega, by push_cast; exact hm, ⟨rfl, rfl, rfl, rfl, trivial⟩, hS⟩
  ·have hge : ¬ i < a0.length := by have := of_decide_eq_false hb; omega
   rw [List.drop_eq_nil_of_le (by omega)] at hm
   refine W_exit ?_
   refine W_seq ?_
   refine W_region ?_
   refine RL_pure (by exact wn0 rfl) (by rfl) (by rfl) (x_assign (v := .int .i64 (-1)) (by rfl)) ?_
   refine RL_nil ?_
   refine W_ret ?_
   obtain rfl := Option.some.inj hm
   exact ⟨[.int .i64 (-1)], (.tmp (by rfl) rfl), rfl, hS⟩
end Go.Proofs.YtobkigllalbkiaaV.M

/- A plain Lean function that answers as the Go function does (none: not told), and the proof that a call answers so. Written by program. -/
set_option linter.unusedVariables false
namespace Go.Proofs.YtobkigllalbkiaaV.M
open Go.RowKit Go.Proofs.YtobkigllalbkiaaV

set_option maxRecDepth 100000 in
set_option maxHeartbeats 400000 in
/-- slices.ContainsFunc: whatever function is handed to it -/
theorem c91 {σ : Type} (S : σ → World → Prop) (p : σ → S_Handle → Option (Bool × σ)) (fid : Nat) (first caps : List Value) (a0 : List S_Handle) (A1 : Option Addr) (cp2 : Nat)
  (hR : ∀ st w, S st w → Rd k_Handle w okT A1 cp2 a0) (hcf : ∀ (args : Array Value) (w : World), (callFunc fid args).run Try.prog w = .ok (.enter fid args) w)
  (hf : ∀ (st : σ) (w : World) (x : S_Handle) (q : Bool × σ), S st w → p st x = some q → Calls Try.prog fid (first ++ [Value.agg #[.int .i64 x.Slot, .int .i64 x.Gen]] ++ caps).toArray w (fun e w' => e = .returned (tup [.bool q.1]) ∧ S q.2 w'))
  (st0 : σ) (w : World) (h0 : S st0 w) (res : Int × σ) (hm : anyS p st0 0 a0 = some res) :
  Calls Try.prog 91 #[.slice A1 a0.length cp2, .func (.func fid) first.toArray caps.toArray] w (fun e w' => e = .returned (tup [.bool (decide (0 ≤ res.1))]) ∧ S res.2 w') := by
 refine calls_W (args := [.slice A1 a0.length cp2, .func (.func fid) first.toArray caps.toArray]) Try.func91 rfl Try.ntmps91 Try.results91 rfl fun r hr => ?_
 obtain ⟨r1, rfl⟩ := regen (r := r) [(0, .slice A1 a0.length cp2), (1, .func (.func fid) first.toArray caps.toArray)] ⟨hr 0 _ rfl, hr 1 _ rfl, trivial⟩
 refine W_seq ?_
 refine W_region ?_
 refine RL_pure (by exact wn0 rfl) (by rfl) (by rfl) (x_assign (v := .bool false) (by rfl)) ?_
 refine RL_nil ?_
 refine W_seq ?_
 refine W_region ?_
 refine RL_pure (by exact wn0 rfl) (by rfl) (by rfl) (x_move (v := .slice A1 a0.length cp2) (by rfl)) ?_
 refine RL_pure (by exact wn0 rfl) (by rfl) (by rfl) (x_move (v := .func (.func fid) first.toArray caps.toArray) (by rfl)) ?_
 refine RL_cons (O_call (by exact wn0 rfl) (by rfl) (by rfl) (x_callL (by rfl) (args := [.slice A1 a0.length cp2, .func (.func fid) first.toArray caps.toArray]) (by rfl) (cf121 _ _)) (c121 S p fid first caps a0 A1 cp2 hR hcf hf st0 w h0 res hm) ?_)
 rintro e w7 ⟨rfl, hS⟩
 refine ⟨_, rfl, ?_⟩
 show RL _ _ _ _ _ _ _
 refine RL_pure (by exact wn0 rfl) (by rfl) (by rfl) (x_geq (by rfl) (by rfl)) ?_
 refine RL_pure (by exact wn0 rfl) (by rfl) (by rfl) (x_assign (v := .bool (decide (0 ≤ res.1))) (by rfl)) ?_
 refine RL_nil ?_
 refine W_ret ?_
 exact ⟨[.bool (decide (0 ≤ res.1))], (.tmp (by rfl) rfl), rfl, hS⟩
end Go.Proofs.YtobkigllalbkiaaV.M

/- A plain Lean function that answers as the Go function does (none: not told), and the proof that a call answers so. Written by program. -/
set_option linter.unusedVariables false
namespace Go.Proofs.YtobkigllalbkiaaV.M
open Go.RowKit Go.Proofs.YtobkigllalbkiaaV
/-- below's inner function: does h reach 'to'? 'seen' have been looked at -/
def m124 (K : Nat) (to : S_Handle) (g : S_Graph) : Nat → List (Int × Int) → S_Handle → Option (Bool × List (Int × Int))
 | 0 => fun _ _ => none
 | n + 1 => fun seen h => (bif ((h.Slot == to.Slot) && (h.Gen == to.Gen)) then some (true, seen) else (bif (decide ((h.Slot, h.Gen) ∈ seen)) then some (false, seen) else
   (nin (h.Slot, h.Gen) seen (lete (seen ++ [(h.Slot, h.Gen)]) fun seen2 => (idx g.Kids h.Slot fun el => ((anyS (m124 K to g n) seen2 0 el).bind fun q => some (decide (0 ≤ q.1), q.2)))))))
/-- What holds of memory while it looks. -/
abbrev LookS (ok : Okp) (w : World) (b : Nat) (to : S_Handle) (g : S_Graph) (gt gs gg gl : Nat) (A1 : Option Addr) (cp1 : Nat) (A5 : Option Addr) (cp5 : Nat) (seen : List (Int × Int)) (wS : World) : Prop :=
 Sep ok w wS [.mset b seen] [RE.rd (Kd.slice k_Handle) A5 cp5 g.Kids, RE.cells gt 0 [.int .i64 to.Slot, .int .i64 to.Gen], RE.cells gs 0 [.map (some b)], RE.cells gg 0 [.slice A1 g.Arena.Slots.length cp1, .slice A5 g.Kids.length cp5], RE.cells gl 0 [.func (.func 124) #[] #[.pointer (some ⟨gt, 0, none⟩), .pointer (some ⟨gs, 0, none⟩), .pointer (some ⟨gg, 0, none⟩), .pointer (some ⟨gl, 0, none⟩)]]]
set_option maxRecDepth 100000 in
set_option maxHeartbeats 4000000 in
theorem c124 (K : Nat) (b : Nat) (to : S_Handle) (g : S_Graph) (gt gs gg gl : Nat) (A1 : Option Addr) (cp1 : Nat) (A5 : Option Addr) (cp5 : Nat) : ∀ (n : Nat) (ok : Okp) (w : World) (seen : List (Int × Int)) (wc : World) (a0 : S_Handle) (res : Bool × List (Int × Int)), LookS ok w b to g gt gs gg gl A1 cp1 A5 cp5 seen wc → m124 K to g n seen a0 = some res →
  Calls Try.prog 124 #[.agg #[.int .i64 a0.Slot, .int .i64 a0.Gen], .pointer (some ⟨gt, 0, none⟩), .pointer (some ⟨gs, 0, none⟩), .pointer (some ⟨gg, 0, none⟩), .pointer (some ⟨gl, 0, none⟩)] wc (fun e w' => e = .returned (tup [.bool res.1]) ∧ LookS ok w b to g gt gs gg gl A1 cp1 A5 cp5 res.2 w') := by
 intro n
 induction n with
 | zero => intro ok w seen wc a0 res H hm; exact (none_some hm).elim
 | succ n ih =>
  intro ok w seen wc a0 res H hm
  unfold m124 at hm
  refine calls_W (args := [.agg #[.int .i64 a0.Slot, .int .i64 a0.Gen], .pointer (some ⟨gt, 0, none⟩), .pointer (some ⟨gs, 0, none⟩), .pointer (some ⟨gg, 0, none⟩), .pointer (some ⟨gl, 0, none⟩)]) Try.func124 rfl Try.ntmps124 Try.results124 rfl fun r hr => ?_
  obtain ⟨r1, rfl⟩ := regen (r := r) [(0, .agg #[.int .i64 a0.Slot, .int .i64 a0.Gen]), (1, .pointer (some ⟨gt, 0, none⟩)), (2, .pointer (some ⟨gs, 0, none⟩)), (3, .pointer (some ⟨gg, 0, none⟩)), (4, .pointer (some ⟨gl, 0, none⟩))] ⟨hr 0 _ rfl, hr 1 _ rfl, hr 2 _ rfl, hr 3 _ rfl, hr 4 _ rfl, trivial⟩
  refine W_seq ?_
  refine W_region ?_
  refine RL_cons (O_box (by exact wn0 rfl) (by rfl) (by rfl) (by rfl) H (fun w2 b5 (H : Sep ok w w2 [.mset b seen, .blk b5 81 [.int .i64 a0.Slot, .int .i64 a0.Gen]] [RE.rd (Kd.slice k_Handle) A5 cp5 g.Kids, RE.cells gt 0 [.int .i64 to.Slot, .int .i64 to.Gen], RE.cells gs 0 [.map (some b)], RE.cells gg 0 [.slice A1 g.Arena.Slots.length cp1, .slice A5 g.Kids.length cp5], RE.cells gl 0 [.func (.func 124) #[] #[.pointer (some ⟨gt, 0, none⟩), .pointer (some ⟨gs, 0, none⟩), .pointer (some ⟨gg, 0, none⟩), .pointer (some ⟨gl, 0, none⟩)]]]) => ?_))
  refine RL_pure (by exact wn0 rfl) (by rfl) (by rfl) (x_assign (v := .bool false) (by rfl)) ?_
  refine RL_nil ?_
  refine W_seq ?_
  refine W_seq ?_
  refine W_region ?_
  refine RL_pure (by exact wn0 rfl) (by rfl) (by rfl) (x_loadA (j := 0) (vs := [.int .i64 a0.Slot, .int .i64 a0.Gen]) ag81 (by rfl) (H.cells (i := 1) (by rfl)) (by rfl) (by rfl)) ?_
  refine RL_pure (by exact wn0 rfl) (by rfl) (by rfl) (x_loadA (j := 0) (vs := [.int .i64 to.Slot, .int .i64 to.Gen]) ag81 (by rfl) (H.cellsR (i := 1) (by rfl)) (by rfl) (by rfl)) ?_
  refine RL_pure (by exact wn0 rfl) (by rfl) (by rfl) (x_eqls ep81 eg81 (by rfl) (by rfl) (b := ((a0.Slot == to.Slot) && (a0.Gen == to.Gen))) (by rfl)) ?_
  refine RL_nil ?_
  refine W_cond (by rfl) (fun hb => ?_) (fun hb => ?_)
  ·have hm := cond_t hb hm
   refine W_seq ?_
   refine W_region ?_
   refine RL_pure (by exact wn0 rfl) (by rfl) (by rfl) (x_assign (v := .bool true) (by rfl)) ?_
   refine RL_nil ?_
   refine W_ret ?_
   obtain rfl := Option.some.inj hm
   exact ⟨[.bool true], (.tmp (by rfl) rfl), rfl, H.takeL 1⟩
  ·have hm := cond_f hb hm
   refine W_skip ?_
   refine W_seq ?_
   refine W_seq ?_
   refine W_region ?_
   refine RL_pure (by exact wn0 rfl) (by rfl) (by rfl) (x_load (j := 0) (v := .map (some b)) sc144 (by rfl) (H.cellsR (i := 2) (by rfl)) (by rfl)) ?_
   refine RL_pure (by exact wn0 rfl) (by rfl) (by rfl) (x_loadA (j := 0) (vs := [.int .i64 a0.Slot, .int .i64 a0.Gen]) ag81 (by rfl) (H.cells (i := 1) (by rfl)) (by rfl) (by rfl)) ?_
   refine RL_pure (by exact wn0 rfl) (by rfl) (by rfl) (x_lookupSet (h := (a0.Slot, a0.Gen)) (i := 0) mp144 ep81 ze4 (by rfl) (by rfl) H (by rfl)) ?_
   refine RL_nil ?_
   refine W_cond (by rfl) (fun hb => ?_) (fun hb => ?_)
   ·have hm := cond_t hb hm
    refine W_seq ?_
    refine W_region ?_
    refine RL_pure (by exact wn0 rfl) (by rfl) (by rfl) (x_assign (v := .bool false) (by rfl)) ?_
    refine RL_nil ?_
    refine W_ret ?_
    obtain rfl := Option.some.inj hm
    exact ⟨[.bool false], (.tmp (by rfl) rfl), rfl, H.takeL 1⟩
   ·have hm := cond_f hb hm
    obtain ⟨hnin, hm⟩ := nin_some hm
    obtain ⟨seen2, hs2, hm⟩ := lete_some hm
    refine W_skip ?_
    refine W_seq ?_
    refine W_region ?_
    refine RL_pure (by exact wn0 rfl) (by rfl) (by rfl) (x_load (j := 0) (v := .map (some b)) sc144 (by rfl) (H.cellsR (i := 2) (by rfl)) (by rfl)) ?_
    refine RL_pure (by exact wn0 rfl) (by rfl) (by rfl) (x_loadA (j := 0) (vs := [.int .i64 a0.Slot, .int .i64 a0.Gen]) ag81 (by rfl) (H.cells (i := 1) (by rfl)) (by rfl) (by rfl)) ?_
    refine RL_cons (O_putSet (h := (a0.Slot, a0.Gen)) (i := 0) (by exact wn0 rfl) mp144 ep81 (by rfl) (by rfl) (by rfl) H (by rfl) hnin hs2 (fun w3 (H : Sep ok w w3 [.mset b seen2, .blk b5 81 [.int .i64 a0.Slot, .int .i64 a0.Gen]] [RE.rd (Kd.slice k_Handle) A5 cp5 g.Kids, RE.cells gt 0 [.int .i64 to.Slot, .int .i64 to.Gen], RE.cells gs 0 [.map (some b)], RE.cells gg 0 [.slice A1 g.Arena.Slots.length cp1, .slice A5 g.Kids.length cp5], RE.cells gl 0 [.func (.func 124) #[] #[.pointer (some ⟨gt, 0, none⟩), .pointer (some ⟨gs, 0, none⟩), .pointer (some ⟨gg, 0, none⟩), .pointer (some ⟨gl, 0, none⟩)]]]) => ?_))
    refine RL_nil ?_
    refine W_seq ?_
    obtain ⟨el, h8, h9, he10, hm⟩ := idx_some hm
    obtain ⟨q, hq, hm⟩ := bind_some hm
    obtain ⟨g12, o13, hA11⟩ := (H.rd (i := 0) (by rfl)).addr he10
    obtain ⟨cs14, hk15, hat16, hg17⟩ := (H.rd (i := 0) (by rfl)).openAt hA11 he10
    obtain ⟨A18, cp19, rfl, hR20⟩ := hk15
    have H : Sep ok w w3 [.mset b seen2, .blk b5 81 [.int .i64 a0.Slot, .int .i64 a0.Gen]] [RE.rd (Kd.slice k_Handle) A5 cp5 g.Kids, RE.cells gt 0 [.int .i64 to.Slot, .int .i64 to.Gen], RE.cells gs 0 [.map (some b)], RE.cells gg 0 [.slice A1 g.Arena.Slots.length cp1, .slice A5 g.Kids.length cp5], RE.cells gl 0 [.func (.func 124) #[] #[.pointer (some ⟨gt, 0, none⟩), .pointer (some ⟨gs, 0, none⟩), .pointer (some ⟨gg, 0, none⟩), .pointer (some ⟨gl, 0, none⟩)]], RE.cells g12 (o13 + (a0.Slot).toNat * 1) [.slice A18 el.length cp19], RE.rd k_Handle A18 cp19 el] := (Sep.also H (re := RE.cells g12 (o13 + (a0.Slot).toNat * 1) [.slice A18 el.length cp19]) ⟨hg17, hat16⟩).also (re := RE.rd k_Handle A18 cp19 el) hR20
    refine W_draw [.free 0, .take 1, .free 2, .take 3, .free 4, .take 5, .take 6, .run 7, .free 8] (fun wS => Sep ok w wS [.hole, .blk b5 81 [.int .i64 a0.Slot, .int .i64 a0.Gen]] [RE.rd (Kd.slice k_Handle) A5 cp5 g.Kids, RE.cells gt 0 [.int .i64 to.Slot, .int .i64 to.Gen], RE.cells gs 0 [.map (some b)], RE.cells gg 0 [.slice A1 g.Arena.Slots.length cp1, .slice A5 g.Kids.length cp5], RE.cells gl 0 [.func (.func 124) #[] #[.pointer (some ⟨gt, 0, none⟩), .pointer (some ⟨gs, 0, none⟩), .pointer (some ⟨gg, 0, none⟩), .pointer (some ⟨gl, 0, none⟩)]], RE.cells g12 (o13 + (a0.Slot).toNat * 1) [.slice A18 el.length cp19], RE.rd k_Handle A18 cp19 el]) [] [0, 2, 4, 8] mixed0 (by kernel_rfl) (by kernel_rfl) (by kernel_rfl) (by rfl) (by exact H.drew.holeL 0) ?_
    obtain ⟨w4, hW⟩ : ∃ W : World, W = { w3 with drawn := w3.drawn + 1 } := ⟨_, rfl⟩
    rw [← hW]
    have H : Sep ok w w4 [.mset b seen2, .blk b5 81 [.int .i64 a0.Slot, .int .i64 a0.Gen]] [RE.rd (Kd.slice k_Handle) A5 cp5 g.Kids, RE.cells gt 0 [.int .i64 to.Slot, .int .i64 to.Gen], RE.cells gs 0 [.map (some b)], RE.cells gg 0 [.slice A1 g.Arena.Slots.length cp1, .slice A5 g.Kids.length cp5], RE.cells gl 0 [.func (.func 124) #[] #[.pointer (some ⟨gt, 0, none⟩), .pointer (some ⟨gs, 0, none⟩), .pointer (some ⟨gg, 0, none⟩), .pointer (some ⟨gl, 0, none⟩)]], RE.cells g12 (o13 + (a0.Slot).toNat * 1) [.slice A18 el.length cp19], RE.rd k_Handle A18 cp19 el] := by rw [hW]; exact H.drew
    clear hW
    refine PR_free (by rfl) (by rfl) (by rfl) (by exact wn0 rfl) (fun wS => (x_fieldAddr fo79_1 (by rfl))) ?_
    refine PR_take (by rfl) (by rfl) (by rfl) (by exact wn0 rfl) (fun wS (H : Sep ok w wS [.hole, .blk b5 81 [.int .i64 a0.Slot, .int .i64 a0.Gen]] [RE.rd (Kd.slice k_Handle) A5 cp5 g.Kids, RE.cells gt 0 [.int .i64 to.Slot, .int .i64 to.Gen], RE.cells gs 0 [.map (some b)], RE.cells gg 0 [.slice A1 g.Arena.Slots.length cp1, .slice A5 g.Kids.length cp5], RE.cells gl 0 [.func (.func 124) #[] #[.pointer (some ⟨gt, 0, none⟩), .pointer (some ⟨gs, 0, none⟩), .pointer (some ⟨gg, 0, none⟩), .pointer (some ⟨gl, 0, none⟩)]], RE.cells g12 (o13 + (a0.Slot).toNat * 1) [.slice A18 el.length cp19], RE.rd k_Handle A18 cp19 el]) => (x_load (j := 1) (v := .slice A5 g.Kids.length cp5) sc77 (by rfl) (H.cellsR (i := 3) (by rfl)) (by rfl))) ?_
    refine PR_free (by rfl) (by rfl) (by rfl) (by exact wn0 rfl) (fun wS => (x_fieldAddr fo81_0 (by rfl))) ?_
    refine PR_take (by rfl) (by rfl) (by rfl) (by exact wn0 rfl) (fun wS (H : Sep ok w wS [.hole, .blk b5 81 [.int .i64 a0.Slot, .int .i64 a0.Gen]] [RE.rd (Kd.slice k_Handle) A5 cp5 g.Kids, RE.cells gt 0 [.int .i64 to.Slot, .int .i64 to.Gen], RE.cells gs 0 [.map (some b)], RE.cells gg 0 [.slice A1 g.Arena.Slots.length cp1, .slice A5 g.Kids.length cp5], RE.cells gl 0 [.func (.func 124) #[] #[.pointer (some ⟨gt, 0, none⟩), .pointer (some ⟨gs, 0, none⟩), .pointer (some ⟨gg, 0, none⟩), .pointer (some ⟨gl, 0, none⟩)]], RE.cells g12 (o13 + (a0.Slot).toNat * 1) [.slice A18 el.length cp19], RE.rd k_Handle A18 cp19 el]) => (x_load (j := 0) (v := .int .i64 a0.Slot) sc3 (by rfl) (H.cells (i := 1) (by rfl)) (by rfl))) ?_
    refine PR_free (by rfl) (by rfl) (by rfl) (by exact wn0 rfl) (fun wS => (x_indexAddr sl77 sz87 (by rfl) (by rfl) hA11 h8 h9)) ?_
    refine PR_take (by rfl) (by rfl) (by rfl) (by exact wn0 rfl) (fun wS (H : Sep ok w wS [.hole, .blk b5 81 [.int .i64 a0.Slot, .int .i64 a0.Gen]] [RE.rd (Kd.slice k_Handle) A5 cp5 g.Kids, RE.cells gt 0 [.int .i64 to.Slot, .int .i64 to.Gen], RE.cells gs 0 [.map (some b)], RE.cells gg 0 [.slice A1 g.Arena.Slots.length cp1, .slice A5 g.Kids.length cp5], RE.cells gl 0 [.func (.func 124) #[] #[.pointer (some ⟨gt, 0, none⟩), .pointer (some ⟨gs, 0, none⟩), .pointer (some ⟨gg, 0, none⟩), .pointer (some ⟨gl, 0, none⟩)]], RE.cells g12 (o13 + (a0.Slot).toNat * 1) [.slice A18 el.length cp19], RE.rd k_Handle A18 cp19 el]) => (x_load (j := 0) (v := .slice A18 el.length cp19) sc87 (by rfl) (H.cellsR (i := 5) (by rfl)) (by rfl))) ?_
    refine PR_take (by rfl) (by rfl) (by rfl) (by exact wn0 rfl) (fun wS (H : Sep ok w wS [.hole, .blk b5 81 [.int .i64 a0.Slot, .int .i64 a0.Gen]] [RE.rd (Kd.slice k_Handle) A5 cp5 g.Kids, RE.cells gt 0 [.int .i64 to.Slot, .int .i64 to.Gen], RE.cells gs 0 [.map (some b)], RE.cells gg 0 [.slice A1 g.Arena.Slots.length cp1, .slice A5 g.Kids.length cp5], RE.cells gl 0 [.func (.func 124) #[] #[.pointer (some ⟨gt, 0, none⟩), .pointer (some ⟨gs, 0, none⟩), .pointer (some ⟨gg, 0, none⟩), .pointer (some ⟨gl, 0, none⟩)]], RE.cells g12 (o13 + (a0.Slot).toNat * 1) [.slice A18 el.length cp19], RE.rd k_Handle A18 cp19 el]) => (x_load (j := 0) (v := .func (.func 124) #[] #[.pointer (some ⟨gt, 0, none⟩), .pointer (some ⟨gs, 0, none⟩), .pointer (some ⟨gg, 0, none⟩), .pointer (some ⟨gl, 0, none⟩)]) sc139 (by rfl) (H.cellsR (i := 4) (by rfl)) (by rfl))) ?_
    refine PR_run (by rfl) (O_call (by exact wn0 rfl) (by rfl) (by rfl) (x_callL (by rfl) (args := [.slice A18 el.length cp19, .func (.func 124) #[] #[.pointer (some ⟨gt, 0, none⟩), .pointer (some ⟨gs, 0, none⟩), .pointer (some ⟨gg, 0, none⟩), .pointer (some ⟨gl, 0, none⟩)]]) (by rfl) (cf91 _ _)) (c91 (fun st wS => Sep ok w wS [.mset b st, .blk b5 81 [.int .i64 a0.Slot, .int .i64 a0.Gen]] [RE.rd (Kd.slice k_Handle) A5 cp5 g.Kids, RE.cells gt 0 [.int .i64 to.Slot, .int .i64 to.Gen], RE.cells gs 0 [.map (some b)], RE.cells gg 0 [.slice A1 g.Arena.Slots.length cp1, .slice A5 g.Kids.length cp5], RE.cells gl 0 [.func (.func 124) #[] #[.pointer (some ⟨gt, 0, none⟩), .pointer (some ⟨gs, 0, none⟩), .pointer (some ⟨gg, 0, none⟩), .pointer (some ⟨gl, 0, none⟩)]], RE.cells g12 (o13 + (a0.Slot).toNat * 1) [.slice A18 el.length cp19], RE.rd k_Handle A18 cp19 el]) (m124 K to g n) 124 [] [.pointer (some ⟨gt, 0, none⟩), .pointer (some ⟨gs, 0, none⟩), .pointer (some ⟨gg, 0, none⟩), .pointer (some ⟨gl, 0, none⟩)] el A18 cp19 (fun st wS (H : Sep ok w wS [.mset b st, .blk b5 81 [.int .i64 a0.Slot, .int .i64 a0.Gen]] [RE.rd (Kd.slice k_Handle) A5 cp5 g.Kids, RE.cells gt 0 [.int .i64 to.Slot, .int .i64 to.Gen], RE.cells gs 0 [.map (some b)], RE.cells gg 0 [.slice A1 g.Arena.Slots.length cp1, .slice A5 g.Kids.length cp5], RE.cells gl 0 [.func (.func 124) #[] #[.pointer (some ⟨gt, 0, none⟩), .pointer (some ⟨gs, 0, none⟩), .pointer (some ⟨gg, 0, none⟩), .pointer (some ⟨gl, 0, none⟩)]], RE.cells g12 (o13 + (a0.Slot).toNat * 1) [.slice A18 el.length cp19], RE.rd k_Handle A18 cp19 el]) => (H.rd (i := 6) (by rfl)).any) cf124 (fun st wS x q (H : Sep ok w wS [.mset b st, .blk b5 81 [.int .i64 a0.Slot, .int .i64 a0.Gen]] [RE.rd (Kd.slice k_Handle) A5 cp5 g.Kids, RE.cells gt 0 [.int .i64 to.Slot, .int .i64 to.Gen], RE.cells gs 0 [.map (some b)], RE.cells gg 0 [.slice A1 g.Arena.Slots.length cp1, .slice A5 g.Kids.length cp5], RE.cells gl 0 [.func (.func 124) #[] #[.pointer (some ⟨gt, 0, none⟩), .pointer (some ⟨gs, 0, none⟩), .pointer (some ⟨gg, 0, none⟩), .pointer (some ⟨gl, 0, none⟩)]], RE.cells g12 (o13 + (a0.Slot).toNat * 1) [.slice A18 el.length cp19], RE.rd k_Handle A18 cp19 el]) hq => by
     have H2 := H.lend (i := 0) (by rfl)
     have H2 := H.lendRd (i := 0) H2 (by rfl) (H.rd (i := 0) (by rfl))
     have H2 := H.lendCells (i := 0) H2 (by rfl) (H.rds 1 _ rfl)
     have H2 := H.lendCells (i := 0) H2 (by rfl) (H.rds 2 _ rfl)
     have H2 := H.lendCells (i := 0) H2 (by rfl) (H.rds 3 _ rfl)
     have H2 := H.lendCells (i := 0) H2 (by rfl) (H.rds 4 _ rfl)
     exact (ih (okW _) wS st wS x q H2 hq).mono fun e w_ h => ⟨h.1, H.back (i := 0) (by rfl) h.2⟩) seen2 w4 H q hq) ?_)
    rintro e w5 ⟨rfl, H⟩
    have H : Sep ok w w5 [.mset b q.2, .blk b5 81 [.int .i64 a0.Slot, .int .i64 a0.Gen]] [RE.rd (Kd.slice k_Handle) A5 cp5 g.Kids, RE.cells gt 0 [.int .i64 to.Slot, .int .i64 to.Gen], RE.cells gs 0 [.map (some b)], RE.cells gg 0 [.slice A1 g.Arena.Slots.length cp1, .slice A5 g.Kids.length cp5], RE.cells gl 0 [.func (.func 124) #[] #[.pointer (some ⟨gt, 0, none⟩), .pointer (some ⟨gs, 0, none⟩), .pointer (some ⟨gg, 0, none⟩), .pointer (some ⟨gl, 0, none⟩)]], RE.cells g12 (o13 + (a0.Slot).toNat * 1) [.slice A18 el.length cp19], RE.rd k_Handle A18 cp19 el] := H
    refine ⟨_, rfl, (H.holeL 0), ?_⟩
    show PR _ _ _ _ _ _ _ _
    refine PR_free (by rfl) (by rfl) (by rfl) (by exact wn0 rfl) (fun wS => (x_assign (v := .bool (decide (0 ≤ q.1))) (by rfl))) ?_
    refine PR_nil ?_
    refine W_ret ?_
    obtain rfl := Option.some.inj hm
    exact ⟨[.bool (decide (0 ≤ q.1))], (.tmp (by rfl) rfl), rfl, (H.takeL 1).takeR 5⟩
end Go.Proofs.YtobkigllalbkiaaV.M

/- A plain law: what the program's walk below a node tells. -/
set_option linter.unusedVariables false
namespace Go.Proofs.YtobkigllalbkiaaV.M
open Go.RowKit Go.Proofs.YtobkigllalbkiaaV
def pr (h : S_Handle) : Int × Int := (h.Slot, h.Gen)
theorem pr_inj {a b : S_Handle} (h : pr a = pr b) : a = b := by
  cases a; cases b; simp only [pr, Prod.mk.injEq] at h; obtain ⟨rfl, rfl⟩ := h; rfl
def kids (g : S_Graph) (h : S_Handle) : List S_Handle := (g.Kids[h.Slot.toNat]?).getD []
def Held (g : S_Graph) (h : S_Handle) : Prop := 0 ≤ h.Slot ∧ ∃ s, g.Arena.Slots[h.Slot.toNat]? = some s ∧ s.Gen = h.Gen ∧ s.Live = true
inductive Reach (g : S_Graph) : S_Handle → S_Handle → Prop
  | refl (h) : Reach g h h
  | step {h k t} : k ∈ kids g h → Reach g k t → Reach g h t
theorem Reach.trans {g : S_Graph} {a b c : S_Handle} (h : Reach g a b) (h2 : Reach g b c) : Reach g a c := by
  induction h with
  | refl => exact h2
  | step hk _ ih => exact .step hk (ih h2)
/-- All children of all nodes are held. -/
structure Whole (g : S_Graph) : Prop where
  len : g.Kids.length = g.Arena.Slots.length
  held : ∀ h k, k ∈ kids g h → Held g k
section
variable (g : S_Graph)
def allH : List (Int × Int) := g.Arena.Slots.mapIdx fun i s => ((i : Int), s.Gen)
theorem held_all {h : S_Handle} (H : Held g h) : pr h ∈ allH g := by
  obtain ⟨h0, s, hs, hg, _⟩ := H
  unfold allH pr
  rw [List.mem_iff_getElem?]
  refine ⟨h.Slot.toNat, ?_⟩
  rw [List.getElem?_mapIdx, hs]
  simp [hg, Int.toNat_of_nonneg h0]
/-- How many handles have not been looked at. -/
def unseen (seen : List (Int × Int)) : Nat := ((allH g).filter fun p => decide (p ∉ seen)).length
end
theorem filter_le {α : Type} {p q : α → Bool} (h : ∀ x, p x = true → q x = true) : ∀ l : List α, (l.filter p).length ≤ (l.filter q).length
  | [] => Nat.le_refl _
  | x :: l => by
    have := filter_le h l
    by_cases hp : p x = true
    · simp [hp, h x hp]; exact this
    · by_cases hq : q x = true
      · simp [hp, hq]; omega
      · simp [hp, hq]; exact this
theorem filter_lt {α : Type} {p q : α → Bool} (h : ∀ x, p x = true → q x = true) {a : α} (hq : q a = true) (hp : p a = false) : ∀ {l : List α}, a ∈ l → (l.filter p).length < (l.filter q).length
  | x :: l, ha => by
    have hle := filter_le h l
    rcases List.mem_cons.1 ha with rfl | ha
    · simp [hp, hq]; omega
    · have := filter_lt h hq hp ha
      by_cases hpx : p x = true
      · simp [hpx, h x hpx]; exact this
      · by_cases hqx : q x = true
        · simp [hpx, hqx]; omega
        · simp [hpx, hqx]; exact this
theorem unseen_le (g : S_Graph) {s s' : List (Int × Int)} (h : ∀ x ∈ s, x ∈ s') : unseen g s' ≤ unseen g s :=
  filter_le (fun x hx => by simp only [decide_eq_true_eq] at hx ⊢; exact fun hc => hx (h x hc)) _
theorem unseen_lt (g : S_Graph) {s s' : List (Int × Int)} (h : ∀ x ∈ s, x ∈ s') {a : Int × Int} (ha : a ∈ allH g) (h1 : a ∉ s) (h2 : a ∈ s') : unseen g s' < unseen g s :=
  filter_lt (fun x hx => by simp only [decide_eq_true_eq] at hx ⊢; exact fun hc => hx (h x hc)) (a := a) (by simpa using h1) (by simpa using h2) ha
section
variable {g : S_Graph} {to : S_Handle}
/-- What has been looked at anew: it is not the one that is looked for, and all its children have been looked at. -/
def New (g : S_Graph) (to : S_Handle) (s s' : List (Int × Int)) : Prop := ∀ x, pr x ∈ s' → pr x ∉ s → x ≠ to ∧ ∀ k ∈ kids g x, pr k ∈ s'
def LookOK (g : S_Graph) (to h : S_Handle) (s : List (Int × Int)) (r : Option (Bool × List (Int × Int))) : Prop :=
  ∃ b s', r = some (b, s') ∧ (∀ x ∈ s, x ∈ s') ∧ (b = true → Reach g h to) ∧ (b = false → pr h ∈ s' ∧ New g to s s')
theorem looks {K n : Nat} (ih : ∀ s h, Held g h → unseen g s < n → LookOK g to h s (m124 K to g n s h)) : ∀ (l : List S_Handle) (i : Int) (s : List (Int × Int)), 0 ≤ i → (∀ h ∈ l, Held g h) → unseen g s < n →
    ∃ q s', anyS (m124 K to g n) s i l = some (q, s') ∧ (∀ x ∈ s, x ∈ s') ∧ (0 ≤ q → ∃ h ∈ l, Reach g h to) ∧ (¬ 0 ≤ q → (∀ h ∈ l, pr h ∈ s') ∧ New g to s s')
  | [], i, s, hi, hl, hn => ⟨-1, s, rfl, fun _ h => h, fun h => absurd h (by omega), fun _ => ⟨fun h hh => by simp at hh, fun x h1 h2 => absurd h1 h2⟩⟩
  | x :: l, i, s, hi, hl, hn => by
    obtain ⟨b, s1, h1, hs1, ht1, hf1⟩ := ih s x (hl x (by simp)) hn
    unfold anyS
    rw [h1, Option.bind_some]
    cases b with
    | true => exact ⟨i, s1, rfl, hs1, fun _ => ⟨x, by simp, ht1 rfl⟩, fun h => absurd hi h⟩
    | false =>
      obtain ⟨hx, hN⟩ := hf1 rfl
      obtain ⟨q, s2, h2, hs2, ht2, hf2⟩ := looks ih l (i + 1) s1 (by omega) (fun h hh => hl h (by simp [hh])) (Nat.lt_of_le_of_lt (unseen_le g hs1) hn)
      refine ⟨q, s2, h2, fun y hy => hs2 y (hs1 y hy), fun hq => ?_, fun hq => ?_⟩
      · obtain ⟨h, hh, hr⟩ := ht2 hq; exact ⟨h, by simp [hh], hr⟩
      · obtain ⟨ha, hN2⟩ := hf2 hq
        refine ⟨fun h hh => ?_, fun y hy hy' => ?_⟩
        · rcases List.mem_cons.1 hh with rfl | hh
          · exact hs2 _ hx
          · exact ha h hh
        · by_cases hy1 : pr y ∈ s1
          · obtain ⟨h3, h4⟩ := hN y hy1 hy'
            exact ⟨h3, fun k hk => hs2 _ (h4 k hk)⟩
          · exact hN2 y hy hy1
theorem look_ok {K : Nat} (W : Whole g) : ∀ (n : Nat) (s : List (Int × Int)) (h : S_Handle), Held g h → unseen g s < n → LookOK g to h s (m124 K to g n s h)
  | 0, s, h, hh, hn => absurd hn (Nat.not_lt_zero _)
  | n + 1, s, h, hh, hn => by
    show LookOK g to h s (bif _ then _ else _)
    by_cases he : h = to
    · subst he
      simp only [beq_self_eq_true, Bool.and_self, cond_true]
      exact ⟨true, s, rfl, fun _ h => h, (fun _ => .refl h), fun h => Bool.noConfusion h⟩
    · have hb : ((h.Slot == to.Slot) && (h.Gen == to.Gen)) = false := by
        rw [Bool.and_eq_false_iff]
        by_cases h1 : h.Slot = to.Slot
        · right
          simp only [beq_eq_false_iff_ne, ne_eq]
          intro h2
          apply he
          cases h; cases to; simp only at h1 h2; subst h1; subst h2; rfl
        · left; simpa using h1
      rw [hb, cond_false]
      by_cases hs : (h.Slot, h.Gen) ∈ s
      · simp only [hs, decide_true, cond_true]
        exact ⟨false, s, rfl, fun _ h => h, (fun h => Bool.noConfusion h), fun _ => ⟨hs, fun x h1 h2 => absurd h1 h2⟩⟩
      · simp only [hs, decide_false, cond_false]
        obtain ⟨s2, hs2⟩ : ∃ s2, s ++ [(h.Slot, h.Gen)] = s2 := ⟨_, rfl⟩
        have hin : ∀ x ∈ s, x ∈ s2 := fun x hx => by rw [← hs2]; exact List.mem_append_left _ hx
        have hh2 : pr h ∈ s2 := by rw [← hs2]; exact List.mem_append_right _ (by simp [pr])
        have hlt : unseen g s2 < n := by
          have := unseen_lt g hin (held_all g hh) hs hh2
          omega
        obtain ⟨h0, sl, hsl, _⟩ := hh
        have hlen : h.Slot.toNat < g.Kids.length := by rw [W.len]; exact (List.getElem?_eq_some_iff.1 hsl).1
        have hk : g.Kids[h.Slot.toNat]? = some g.Kids[h.Slot.toNat] := List.getElem?_eq_getElem hlen
        have hkk : kids g h = g.Kids[h.Slot.toNat] := by unfold kids; rw [hk]; rfl
        obtain ⟨q, s', hr, hsub, ht, hf⟩ := looks (K := K) (fun s h hh hn => look_ok W n s h hh hn) (kids g h) 0 s2 (Int.le_refl _) (fun k hk => W.held h k hk) hlt
        rw [hkk] at hr
        have hval : nin (h.Slot, h.Gen) s (lete (s ++ [(h.Slot, h.Gen)]) fun seen2 => (idx g.Kids h.Slot fun el => ((anyS (m124 K to g n) seen2 0 el).bind fun q => some (decide (0 ≤ q.1), q.2)))) = some (decide (0 ≤ q), s') := by
          unfold nin
          rw [if_neg hs]
          show idx g.Kids h.Slot (fun el => ((anyS (m124 K to g n) (s ++ [(h.Slot, h.Gen)]) 0 el).bind fun q => some (decide (0 ≤ q.1), q.2))) = _
          unfold idx
          rw [if_pos h0, hk, Option.bind_some, hs2, hr, Option.bind_some]
        rw [hval]
        refine ⟨_, _, rfl, fun x hx => hsub x (hin x hx), fun hq => ?_, fun hq => ?_⟩
        · obtain ⟨k, hk1, hk2⟩ := ht (of_decide_eq_true hq)
          exact .step hk1 hk2
        · obtain ⟨ha, hN⟩ := hf (of_decide_eq_false hq)
          refine ⟨hsub _ hh2, fun y hy hy' => ?_⟩
          by_cases hy2 : pr y ∈ s2
          · have hyh : y = h := by
              rw [← hs2, List.mem_append] at hy2
              rcases hy2 with hy2 | hy2
              · exact absurd hy2 hy'
              · exact pr_inj (by simpa [pr] using hy2)
            subst hyh
            exact ⟨he, fun k hk => ha k hk⟩
          · exact hN y hy hy2
end
end Go.Proofs.YtobkigllalbkiaaV.M

/- A plain Lean function that answers as the Go function does (none: not told), and the proof that a call answers so. Written by program. -/
set_option linter.unusedVariables false
namespace Go.Proofs.YtobkigllalbkiaaV.M
open Go.RowKit Go.Proofs.YtobkigllalbkiaaV
/-- diorama/arena.Check$1 -/
def m122 (K : Nat) (a0 : S_Slot) : Option (Bool) :=
 ((bif (decide (a0.Gen < 1)) then some true else some (decide (1073741824 < a0.Gen))).bind fun b3 => some b3)
set_option maxRecDepth 100000 in
set_option maxHeartbeats 4000000 in
theorem c122 (ok : Okp) (K : Nat) (w : World) (a0 : S_Slot)  (res : Bool) (hm : m122 K a0 = some res) :
  Calls Try.prog 122 #[.agg #[.int .i64 a0.Gen, .bool a0.Live]] w (fun e w' => e = .returned (tup [.bool res]) ∧ Sep ok w w' [] []) := by
 refine calls_W (args := [.agg #[.int .i64 a0.Gen, .bool a0.Live]]) Try.func122 rfl Try.ntmps122 Try.results122 rfl fun r hr => ?_
 obtain ⟨r1, rfl⟩ := regen (r := r) [(0, .agg #[.int .i64 a0.Gen, .bool a0.Live])] ⟨hr 0 _ rfl, trivial⟩
 have H : Sep ok w w [] [] := Sep.start ok w
 unfold m122 at hm
 refine W_seq ?_
 refine W_region ?_
 refine RL_cons (O_box (by exact wn0 rfl) (by rfl) (by rfl) (by rfl) H (fun w2 b1 (H : Sep ok w w2 [.blk b1 96 [.int .i64 a0.Gen, .bool a0.Live]] []) => ?_))
 refine RL_p (x_assign (v := .bool false) (by rfl)) ?_
 refine RL_nil ?_
 refine W_seq ?_
 refine W_region ?_
 refine RL_p (x_fieldAddr fo96_0 (by rfl)) ?_
 refine RL_p (x_load (j := 0) (v := .int .i64 a0.Gen) sc3 (by rfl) (H.cells (i := 0) (by rfl)) (by rfl)) ?_
 refine RL_p (x_lss (by rfl) (by rfl)) ?_
 refine RL_p (x_move (v := .bool (decide (a0.Gen < 1))) (by rfl)) ?_
 obtain ⟨b3, hmS, hm⟩ := bind_some hm
 refine RL_cut 4 (fun r' w' => Agr [(10, .bool b3)] r' ∧ Sep ok w w' [.blk b1 96 [.int .i64 a0.Gen, .bool a0.Live]] []) ?_ ?_
 ·cases hbS : (decide (a0.Gen < 1))
  ·have hm := cond_f hbS hmS
   refine RL_pure (by exact wn1 rfl rfl rfl rfl) (by rfl) (by rfl) (x_fieldAddr fo96_0 (by rfl)) ?_
   refine RL_pure (by exact wn1 rfl rfl rfl rfl) (by rfl) (by rfl) (x_load (j := 0) (v := .int .i64 a0.Gen) sc3 (by rfl) (H.cells (i := 0) (by rfl)) (by rfl)) ?_
   refine RL_pure (by exact wn1 rfl rfl rfl rfl) (by rfl) (by rfl) (x_gtr (by rfl) (by rfl)) ?_
   refine RL_p (x_pick_f (v := .bool (decide (1073741824 < a0.Gen))) (by rfl) (by rfl)) ?_
   refine RL_nil ?_
   exact ⟨⟨congrArg Value.bool (Option.some.inj hm), trivial⟩, H⟩
  ·have hm := cond_t hbS hmS
   refine RL_cons (OpR_off (by exact wn2 rfl rfl rfl rfl) (by rfl) (by rfl) ?_)
   refine RL_cons (OpR_off (by exact wn2 rfl rfl rfl rfl) (by rfl) (by rfl) ?_)
   refine RL_cons (OpR_off (by exact wn2 rfl rfl rfl rfl) (by rfl) (by rfl) ?_)
   refine RL_p (x_pick_t (v := .bool true) (by rfl) (by rfl)) ?_
   refine RL_nil ?_
   exact ⟨⟨congrArg Value.bool (Option.some.inj hm), trivial⟩, H⟩
 ·rintro r' w' ⟨hA, H⟩
  obtain ⟨r4, rfl⟩ := regen _ hA; clear hA
  obtain ⟨w5, rfl⟩ : ∃ W : World, W = w' := ⟨_, rfl⟩
  show RL _ _ _ _ _ _ _
  refine RL_p (x_assign (v := .bool b3) (by rfl)) ?_
  refine RL_nil ?_
  refine W_ret ?_
  obtain rfl := Option.some.inj hm
  exact ⟨[.bool b3], (.tmp (by rfl) rfl), rfl, H.none_⟩
end Go.Proofs.YtobkigllalbkiaaV.M

/- A plain Lean function that answers as the Go function does (none: not told), and the proof that a call answers so. Written by program. -/
set_option linter.unusedVariables false
namespace Go.Proofs.YtobkigllalbkiaaV.M
open Go.RowKit Go.Proofs.YtobkigllalbkiaaV

set_option maxRecDepth 100000 in
set_option maxHeartbeats 400000 in
/-- slices.IndexFunc: whatever function is handed to it; S: what holds of memory as it goes on -/
theorem c126 {σ : Type} (S : σ → World → Prop) (p : σ → S_Slot → Option (Bool × σ)) (fid : Nat) (first caps : List Value) (a0 : List S_Slot) (A1 : Option Addr) (cp2 : Nat)
  (hR : ∀ st w, S st w → Rd k_Slot w okT A1 cp2 a0) (hcf : ∀ (args : Array Value) (w : World), (callFunc fid args).run Try.prog w = .ok (.enter fid args) w)
  (hf : ∀ (st : σ) (w : World) (x : S_Slot) (q : Bool × σ), S st w → p st x = some q → Calls Try.prog fid (first ++ [Value.agg #[.int .i64 x.Gen, .bool x.Live]] ++ caps).toArray w (fun e w' => e = .returned (tup [.bool q.1]) ∧ S q.2 w'))
  (st0 : σ) (w : World) (h0 : S st0 w) (res : Int × σ) (hm : anyS p st0 0 a0 = some res) :
  Calls Try.prog 126 #[.slice A1 a0.length cp2, .func (.func fid) first.toArray caps.toArray] w (fun e w' => e = .returned (tup [.int .i64 res.1]) ∧ S res.2 w') := by
 refine calls_W (args := [.slice A1 a0.length cp2, .func (.func fid) first.toArray caps.toArray]) Try.func126 rfl Try.ntmps126 Try.results126 rfl fun r hr => ?_
 obtain ⟨r1, rfl⟩ := regen (r := r) [(0, .slice A1 a0.length cp2), (1, .func (.func fid) first.toArray caps.toArray)] ⟨hr 0 _ rfl, hr 1 _ rfl, trivial⟩
 have hlen : (a0.length : Int) ≤ 9223372036854775807 := by have h1 := (hR _ _ h0).1; have h2 := (hR _ _ h0).2.1; omega
 refine W_seq ?_
 refine W_region ?_
 refine RL_pure (by exact wn0 rfl) (by rfl) (by rfl) (x_assign (v := .int .i64 0) (by rfl)) ?_
 refine RL_nil ?_
 refine W_seq ?_
 refine W_seq ?_
 refine W_region ?_
 refine RL_pure (by exact wn0 rfl) (by rfl) (by rfl) (x_move (v := .slice A1 a0.length cp2) (by rfl)) ?_
 refine RL_pure (by exact wn0 rfl) (by rfl) (by rfl) (x_len sl74 (by rfl)) ?_
 refine RL_pure (by exact wn0 rfl) (by rfl) (by rfl) (x_move (v := .int .i64 0) (by rfl)) ?_
 refine RL_nil ?_
 refine W_block ?_
 refine W_loop (fun k r' w' => ∃ (i : Nat) (st : σ), i ≤ a0.length ∧ a0.length < i + k ∧ anyS p st i (a0.drop i) = some res ∧ Agr [(0, .slice A1 a0.length cp2), (1, .func (.func fid) first.toArray caps.toArray), (7, .int .i64 (a0.length : Int)), (8, .int .i64 (i : Int))] r' ∧ S st w') (a0.length + 1) ?_ ?_
 ·exact ⟨0, st0, Nat.zero_le _, by omega, hm, ⟨rfl, rfl, rfl, rfl, trivial⟩, h0⟩
 ·rintro k r' w' ⟨i, st, hi1, hi2, hm, hA, hS⟩
  obtain ⟨r5, rfl⟩ := regen _ hA; clear hA
  obtain ⟨w6, rfl⟩ : ∃ W : World, W = w' := ⟨_, rfl⟩
  refine W_seq ?_
  refine W_region ?_
  refine RL_pure (by exact wn0 rfl) (by rfl) (by rfl) (x_lss (by rfl) (by rfl)) ?_
  refine RL_nil ?_
  refine W_seq ?_
  refine W_cond (by rfl) (fun hb => ?_) (fun hb => ?_)
  ·have hlt : i < a0.length := by have := of_decide_eq_true hb; omega
   have he : a0[i]? = some a0[i] := List.getElem?_eq_getElem hlt
   rw [List.drop_eq_getElem_cons hlt] at hm
   generalize a0[i] = el at he hm
   unfold anyS at hm
   obtain ⟨q, hq, hm⟩ := bind_some hm
   have hRd := hR _ _ hS
   refine W_skip ?_
   refine W_seq ?_
   refine W_block ?_
   refine W_seq ?_
   refine W_region ?_
   refine RL_pure (by exact wn0 rfl) (by rfl) (by rfl) (x_move (v := .int .i64 (i : Int)) (by rfl)) ?_
   refine RL_pure (by exact wn0 rfl) (by rfl) (by rfl) (x_assign (v := .int .i64 (i : Int)) (by rfl)) ?_
   refine RL_nil ?_
   refine W_seq ?_
   refine W_region ?_
   refine RL_pure (by exact wn0 rfl) (by rfl) (by rfl) (x_move (v := .func (.func fid) first.toArray caps.toArray) (by rfl)) ?_
   refine RL_pure (by exact wn0 rfl) (by rfl) (by rfl) (x_move (v := .slice A1 a0.length cp2) (by rfl)) ?_
   refine RL_pure (by exact wn0 rfl) (by rfl) (by rfl) (x_move (v := .int .i64 (i : Int)) (by rfl)) ?_
   obtain ⟨g12, o13, hA11⟩ := hRd.addr he
   have he2 : a0[((i : Int)).toNat]? = some el := by simpa using he
   refine RL_pure (by exact wn0 rfl) (by rfl) (by rfl) (x_indexAddr sl74 sz96 (by rfl) (by rfl) hA11 (by omega) (by omega)) ?_
   refine RL_pure (by exact wn0 rfl) (by rfl) (by rfl) (x_loadA (j := 0) (vs := [.int .i64 el.Gen, .bool el.Live]) ag96 (by rfl) (Rd.flatAt (n := 2) hRd hA11 he2) (by rfl) (by rfl)) ?_
   refine RL_cons (O_call (by exact wn0 rfl) (by rfl) (by rfl) (x_callL (by rfl) (args := first ++ [Value.agg #[.int .i64 el.Gen, .bool el.Live]] ++ caps) (by rfl) (hcf _ _)) (hf st w6 el q hS hq) ?_)
   rintro e w16 ⟨rfl, hS⟩
   refine ⟨_, rfl, ?_⟩
   show RL _ _ _ _ _ _ _
   refine RL_nil ?_
   refine W_cond (by rfl) (fun hb => ?_) (fun hb => ?_)
   ·have hm := cond_t hb hm
    refine W_seq ?_
    refine W_region ?_
    refine RL_pure (by exact wn0 rfl) (by rfl) (by rfl) (x_move (v := .int .i64 (i : Int)) (by rfl)) ?_
    refine RL_pure (by exact wn0 rfl) (by rfl) (by rfl) (x_assign (v := .int .i64 (i : Int)) (by rfl)) ?_
    refine RL_nil ?_
    refine W_ret ?_
    obtain rfl := Option.some.inj hm
    exact ⟨[.int .i64 (i : Int)], (.tmp (by rfl) rfl), rfl, hS⟩
   ·have hm := cond_f hb hm
    refine W_skip ?_
    refine W_region ?_
    have hw1 : IntKind.i64.wrap ((i : Int) + 1) = ((i + 1 : Nat) : Int) := by rw [wrap_i64_in (by omega)]; push_cast; rfl
    refine RL_pure (by exact wn0 rfl) (by rfl) (by rfl) (x_add (by rfl) (by rfl) hw1) ?_
    refine RL_pure (by exact wn0 rfl) (by rfl) (by rfl) (x_move (v := .int .i64 ((i + 1 : Nat) : Int)) (by rfl)) ?_
    refine RL_nil ?_
    exact ⟨k - 1, by omega, i + 1, q.2, by omega, by omega, by push_cast; exact hm, ⟨rfl, rfl, rfl, rfl, trivial⟩, hS⟩
  ·have hge : ¬ i < a0.length := by have := of_decide_eq_false hb; omega
   rw [List.drop_eq_nil_of_le (by omega)] at hm
   refine W_exit ?_
   refine W_seq ?_
   refine W_region ?_
   refine RL_pure (by exact wn0 rfl) (by rfl) (by rfl) (x_assign (v := .int .i64 (-1)) (by rfl)) ?_
   refine RL_nil ?_
   refine W_ret ?_
   obtain rfl := Option.some.inj hm
   exact ⟨[.int .i64 (-1)], (.tmp (by rfl) rfl), rfl, hS⟩
end Go.Proofs.YtobkigllalbkiaaV.M

/- A plain Lean function that answers as the Go function does (none: not told), and the proof that a call answers so. Written by program. -/
set_option linter.unusedVariables false
namespace Go.Proofs.YtobkigllalbkiaaV.M
open Go.RowKit Go.Proofs.YtobkigllalbkiaaV

set_option maxRecDepth 100000 in
set_option maxHeartbeats 400000 in
/-- slices.ContainsFunc: whatever function is handed to it -/
theorem c123 {σ : Type} (S : σ → World → Prop) (p : σ → S_Slot → Option (Bool × σ)) (fid : Nat) (first caps : List Value) (a0 : List S_Slot) (A1 : Option Addr) (cp2 : Nat)
  (hR : ∀ st w, S st w → Rd k_Slot w okT A1 cp2 a0) (hcf : ∀ (args : Array Value) (w : World), (callFunc fid args).run Try.prog w = .ok (.enter fid args) w)
  (hf : ∀ (st : σ) (w : World) (x : S_Slot) (q : Bool × σ), S st w → p st x = some q → Calls Try.prog fid (first ++ [Value.agg #[.int .i64 x.Gen, .bool x.Live]] ++ caps).toArray w (fun e w' => e = .returned (tup [.bool q.1]) ∧ S q.2 w'))
  (st0 : σ) (w : World) (h0 : S st0 w) (res : Int × σ) (hm : anyS p st0 0 a0 = some res) :
  Calls Try.prog 123 #[.slice A1 a0.length cp2, .func (.func fid) first.toArray caps.toArray] w (fun e w' => e = .returned (tup [.bool (decide (0 ≤ res.1))]) ∧ S res.2 w') := by
 refine calls_W (args := [.slice A1 a0.length cp2, .func (.func fid) first.toArray caps.toArray]) Try.func123 rfl Try.ntmps123 Try.results123 rfl fun r hr => ?_
 obtain ⟨r1, rfl⟩ := regen (r := r) [(0, .slice A1 a0.length cp2), (1, .func (.func fid) first.toArray caps.toArray)] ⟨hr 0 _ rfl, hr 1 _ rfl, trivial⟩
 refine W_seq ?_
 refine W_region ?_
 refine RL_pure (by exact wn0 rfl) (by rfl) (by rfl) (x_assign (v := .bool false) (by rfl)) ?_
 refine RL_nil ?_
 refine W_seq ?_
 refine W_region ?_
 refine RL_pure (by exact wn0 rfl) (by rfl) (by rfl) (x_move (v := .slice A1 a0.length cp2) (by rfl)) ?_
 refine RL_pure (by exact wn0 rfl) (by rfl) (by rfl) (x_move (v := .func (.func fid) first.toArray caps.toArray) (by rfl)) ?_
 refine RL_cons (O_call (by exact wn0 rfl) (by rfl) (by rfl) (x_callL (by rfl) (args := [.slice A1 a0.length cp2, .func (.func fid) first.toArray caps.toArray]) (by rfl) (cf126 _ _)) (c126 S p fid first caps a0 A1 cp2 hR hcf hf st0 w h0 res hm) ?_)
 rintro e w7 ⟨rfl, hS⟩
 refine ⟨_, rfl, ?_⟩
 show RL _ _ _ _ _ _ _
 refine RL_pure (by exact wn0 rfl) (by rfl) (by rfl) (x_geq (by rfl) (by rfl)) ?_
 refine RL_pure (by exact wn0 rfl) (by rfl) (by rfl) (x_assign (v := .bool (decide (0 ≤ res.1))) (by rfl)) ?_
 refine RL_nil ?_
 refine W_ret ?_
 exact ⟨[.bool (decide (0 ≤ res.1))], (.tmp (by rfl) rfl), rfl, hS⟩
end Go.Proofs.YtobkigllalbkiaaV.M

/- A plain Lean function that answers as the Go function does (none: not told), and the proof that a call answers so. Written by program. -/
set_option linter.unusedVariables false
namespace Go.Proofs.YtobkigllalbkiaaV.M
open Go.RowKit Go.Proofs.YtobkigllalbkiaaV
/-- diorama/arena.Check -/
def m88 (K : Nat) (a0 : S_Arena) : Option (Int) :=
 ((bif (decide (128 < (a0.Slots.length : Int))) then some true else ((anyS (fun (_ : Unit) (x : S_Slot) => (m122 K x).map fun b => (b, ())) () 0 a0.Slots).bind fun v9 => some (decide (0 ≤ v9.1)))).bind fun b7 => (bif b7 then some 8 else some 0))
set_option maxRecDepth 100000 in
set_option maxHeartbeats 4000000 in
theorem c88 (ok : Okp) (K : Nat) (w : World) (a0 : S_Arena) (A1 : Option Addr) (cp2 : Nat) (hR3 : Rd k_Slot w ok A1 cp2 a0.Slots) (res : Int) (hm : m88 K a0 = some res) :
  Calls Try.prog 88 #[.agg #[.slice A1 a0.Slots.length cp2]] w (fun e w' => e = .returned (tup [.int .i64 res]) ∧ Sep ok w w' [] []) := by
 refine calls_W (args := [.agg #[.slice A1 a0.Slots.length cp2]]) Try.func88 rfl Try.ntmps88 Try.results88 rfl fun r hr => ?_
 obtain ⟨r1, rfl⟩ := regen (r := r) [(0, .agg #[.slice A1 a0.Slots.length cp2])] ⟨hr 0 _ rfl, trivial⟩
 have H : Sep ok w w [] [RE.rd k_Slot A1 cp2 a0.Slots] := Sep.arg (Sep.start ok w) (re := RE.rd k_Slot A1 cp2 a0.Slots) rfl rfl hR3
 unfold m88 at hm
 refine W_seq ?_
 refine W_region ?_
 refine RL_cons (O_box (by exact wn0 rfl) (by rfl) (by rfl) (by rfl) H (fun w6 b5 (H : Sep ok w w6 [.blk b5 76 [.slice A1 a0.Slots.length cp2]] [RE.rd k_Slot A1 cp2 a0.Slots]) => ?_))
 refine RL_p (x_assign (v := .int .i64 0) (by rfl)) ?_
 refine RL_nil ?_
 refine W_seq ?_
 refine W_region ?_
 refine RL_p (x_assign (v := .func (.func 122) #[] #[]) (by rfl)) ?_
 refine RL_nil ?_
 refine W_seq ?_
 refine W_seq ?_
 refine W_region ?_
 refine RL_p (x_fieldAddr fo76_0 (by rfl)) ?_
 refine RL_p (x_load (j := 0) (v := .slice A1 a0.Slots.length cp2) sc74 (by rfl) (H.cells (i := 0) (by rfl)) (by rfl)) ?_
 refine RL_p (x_len sl74 (by rfl)) ?_
 refine RL_p (x_gtr (by rfl) (by rfl)) ?_
 refine RL_p (x_move (v := .bool (decide (128 < (a0.Slots.length : Int)))) (by rfl)) ?_
 obtain ⟨b7, hmS, hm⟩ := bind_some hm
 refine RL_cut 5 (fun r' w' => Agr [(13, .bool b7)] r' ∧ Sep ok w w' [.blk b5 76 [.slice A1 a0.Slots.length cp2]] [RE.rd k_Slot A1 cp2 a0.Slots]) ?_ ?_
 ·cases hbS : (decide (128 < (a0.Slots.length : Int)))
  ·have hm := cond_f hbS hmS
   refine RL_pure (by exact wn1 rfl rfl rfl rfl) (by rfl) (by rfl) (x_fieldAddr fo76_0 (by rfl)) ?_
   refine RL_pure (by exact wn1 rfl rfl rfl rfl) (by rfl) (by rfl) (x_load (j := 0) (v := .slice A1 a0.Slots.length cp2) sc74 (by rfl) (H.cells (i := 0) (by rfl)) (by rfl)) ?_
   refine RL_pure (by exact wn1 rfl rfl rfl rfl) (by rfl) (by rfl) (x_move (v := .func (.func 122) #[] #[]) (by rfl)) ?_
   obtain ⟨v9, hv8, hm⟩ := bind_some hm
   refine RL_cons (O_call (by exact wn1 rfl rfl rfl rfl) (by rfl) (by rfl) (x_callL (by rfl) (args := [.slice A1 a0.Slots.length cp2, .func (.func 122) #[] #[]]) (by rfl) (cf123 _ _)) (c123 (fun (_ : Unit) wS => Sep ok w wS [.blk b5 76 [.slice A1 a0.Slots.length cp2]] [RE.rd k_Slot A1 cp2 a0.Slots]) (fun (_ : Unit) (x : S_Slot) => (m122 K x).map fun b => (b, ())) 122 [] [] a0.Slots A1 cp2 (fun _ wS (H : Sep ok w wS [.blk b5 76 [.slice A1 a0.Slots.length cp2]] [RE.rd k_Slot A1 cp2 a0.Slots]) => (H.rd (i := 0) (by rfl)).any) cf122 (fun _ wS x q (H : Sep ok w wS [.blk b5 76 [.slice A1 a0.Slots.length cp2]] [RE.rd k_Slot A1 cp2 a0.Slots]) hq => by obtain ⟨b, hb, rfl⟩ := Option.map_eq_some_iff.1 hq; exact (c122 okT K wS x  b hb).mono fun e w_ h => ⟨h.1, H.below h.2.base⟩) () w6 H v9 hv8) ?_)
   rintro e w10 ⟨rfl, H⟩
   have H : Sep ok w w10 [.blk b5 76 [.slice A1 a0.Slots.length cp2]] [RE.rd k_Slot A1 cp2 a0.Slots] := H
   refine ⟨_, rfl, ?_⟩
   show RL _ _ _ _ _ _ _
   refine RL_p (x_pick_f (v := .bool (decide (0 ≤ v9.1))) (by rfl) (by rfl)) ?_
   refine RL_nil ?_
   exact ⟨⟨congrArg Value.bool (Option.some.inj hm), trivial⟩, H⟩
  ·have hm := cond_t hbS hmS
   refine RL_cons (OpR_off (by exact wn2 rfl rfl rfl rfl) (by rfl) (by rfl) ?_)
   refine RL_cons (OpR_off (by exact wn2 rfl rfl rfl rfl) (by rfl) (by rfl) ?_)
   refine RL_cons (OpR_off (by exact wn2 rfl rfl rfl rfl) (by rfl) (by rfl) ?_)
   refine RL_cons (OpR_off (by exact wn2 rfl rfl rfl rfl) (by rfl) (by rfl) ?_)
   refine RL_p (x_pick_t (v := .bool true) (by rfl) (by rfl)) ?_
   refine RL_nil ?_
   exact ⟨⟨congrArg Value.bool (Option.some.inj hm), trivial⟩, H⟩
 ·rintro r' w' ⟨hA, H⟩
  obtain ⟨r11, rfl⟩ := regen _ hA; clear hA
  obtain ⟨w12, rfl⟩ : ∃ W : World, W = w' := ⟨_, rfl⟩
  show RL _ _ _ _ _ _ _
  refine RL_nil ?_
  refine W_cond (by rfl) (fun hb => ?_) (fun hb => ?_)
  ·have hm := cond_t hb hm
   refine W_seq ?_
   refine W_region ?_
   refine RL_p (x_assign (v := .int .i64 8) (by rfl)) ?_
   refine RL_nil ?_
   refine W_ret ?_
   obtain rfl := Option.some.inj hm
   exact ⟨[.int .i64 8], (.tmp (by rfl) rfl), rfl, H.none_⟩
  ·have hm := cond_f hb hm
   refine W_skip ?_
   refine W_seq ?_
   refine W_region ?_
   refine RL_p (x_assign (v := .int .i64 0) (by rfl)) ?_
   refine RL_nil ?_
   refine W_ret ?_
   obtain rfl := Option.some.inj hm
   exact ⟨[.int .i64 0], (.tmp (by rfl) rfl), rfl, H.none_⟩
end Go.Proofs.YtobkigllalbkiaaV.M

/- A plain Lean function that answers as the Go function does (none: not told), and the proof that a call answers so. Written by program. -/
set_option linter.unusedVariables false
namespace Go.Proofs.YtobkigllalbkiaaV.M
open Go.RowKit Go.Proofs.YtobkigllalbkiaaV
/-- diorama/arena.held -/
def m120 (K : Nat) (a0 : S_Arena) (a1 : S_Handle) : Option (Bool) :=
 ((bif (decide (0 ≤ a1.Slot)) then some (decide (a1.Slot < (a0.Slots.length : Int))) else some false).bind fun b10 => ((bif b10 then (idx a0.Slots a1.Slot fun el14 => some ((el14.Gen == a1.Gen) && (el14.Live == true))) else some false).bind fun b13 => some b13))
set_option maxRecDepth 100000 in
set_option maxHeartbeats 4000000 in
theorem c120 (ok : Okp) (K : Nat) (w : World) (a0 : S_Arena) (A1 : Option Addr) (cp2 : Nat) (a1 : S_Handle) (hR3 : Rd k_Slot w ok A1 cp2 a0.Slots) (res : Bool) (hm : m120 K a0 a1 = some res) :
  Calls Try.prog 120 #[.agg #[.slice A1 a0.Slots.length cp2], .agg #[.int .i64 a1.Slot, .int .i64 a1.Gen]] w (fun e w' => e = .returned (tup [.bool res]) ∧ Sep ok w w' [] []) := by
 refine calls_W (args := [.agg #[.slice A1 a0.Slots.length cp2], .agg #[.int .i64 a1.Slot, .int .i64 a1.Gen]]) Try.func120 rfl Try.ntmps120 Try.results120 rfl fun r hr => ?_
 obtain ⟨r1, rfl⟩ := regen (r := r) [(0, .agg #[.slice A1 a0.Slots.length cp2]), (1, .agg #[.int .i64 a1.Slot, .int .i64 a1.Gen])] ⟨hr 0 _ rfl, hr 1 _ rfl, trivial⟩
 have H : Sep ok w w [] [RE.rd k_Slot A1 cp2 a0.Slots] := Sep.arg (Sep.start ok w) (re := RE.rd k_Slot A1 cp2 a0.Slots) rfl rfl hR3
 unfold m120 at hm
 refine W_seq ?_
 refine W_region ?_
 refine RL_cons (O_box (by exact wn0 rfl) (by rfl) (by rfl) (by rfl) H (fun w6 b5 (H : Sep ok w w6 [.blk b5 76 [.slice A1 a0.Slots.length cp2]] [RE.rd k_Slot A1 cp2 a0.Slots]) => ?_))
 refine RL_cons (O_box (by exact wn0 rfl) (by rfl) (by rfl) (by rfl) H (fun w8 b7 (H : Sep ok w w8 [.blk b5 76 [.slice A1 a0.Slots.length cp2], HNB b7 a1] [RE.rd k_Slot A1 cp2 a0.Slots]) => ?_))
 refine RL_p (x_assign (v := .bool false) (by rfl)) ?_
 refine RL_nil ?_
 refine W_seq ?_
 refine W_draw [.free 0, .take 1, .free 2, .free 3, .free 4, .take 5, .free 6, .take 7, .free 8, .free 9, .free 10, .free 11, .free 12, .take 13, .free 14, .take 15, .free 16, .take 17, .free 18, .take 19, .free 20, .free 21, .free 22, .free 23] (fun wS => Sep ok w wS [.blk b5 76 [.slice A1 a0.Slots.length cp2], HNB b7 a1] [RE.rd k_Slot A1 cp2 a0.Slots]) [] [0, 2, 3, 4, 6, 8, 9, 10, 11, 12, 14, 16, 18, 20, 21, 22, 23] mixed0 (by kernel_rfl) (by kernel_rfl) (by kernel_rfl) (by rfl) (by exact H.drew) ?_
 obtain ⟨w9, hW⟩ : ∃ W : World, W = { w8 with drawn := w8.drawn + 1 } := ⟨_, rfl⟩
 rw [← hW]
 have H : Sep ok w w9 [.blk b5 76 [.slice A1 a0.Slots.length cp2], HNB b7 a1] [RE.rd k_Slot A1 cp2 a0.Slots] := by rw [hW]; exact H.drew
 clear hW
 refine PR_free (by rfl) (by rfl) (by rfl) (by exact wn0 rfl) (fun wS => (x_fieldAddr fo81_0 (by rfl))) ?_
 refine PR_take (by rfl) (by rfl) (by rfl) (by exact wn0 rfl) (fun wS (H : Sep ok w wS [.blk b5 76 [.slice A1 a0.Slots.length cp2], HNB b7 a1] [RE.rd k_Slot A1 cp2 a0.Slots]) => (x_load (j := 0) (v := .int .i64 a1.Slot) sc3 (by rfl) (H.cells (i := 1) (by rfl)) (by rfl))) ?_
 refine PR_free (by rfl) (by rfl) (by rfl) (by exact wn0 rfl) (fun wS => (x_geq (by rfl) (by rfl))) ?_
 refine PR_free (by rfl) (by rfl) (by rfl) (by exact wn0 rfl) (fun wS => (x_move (v := .bool (decide (0 ≤ a1.Slot))) (by rfl))) ?_
 obtain ⟨b10, hmS, hm⟩ := bind_some hm
 refine PR_cut 7 (fun r' w' => Agr [(15, .bool b10), (2, .pointer (some ⟨b5, 0, none⟩)), (3, .pointer (some ⟨b7, 0, none⟩))] r' ∧ Sep ok w w' [.blk b5 76 [.slice A1 a0.Slots.length cp2], HNB b7 a1] [RE.rd k_Slot A1 cp2 a0.Slots]) ?_ ?_
 ·cases hbS : (decide (0 ≤ a1.Slot))
  ·have hm := cond_f hbS hmS
   refine PR_offF (by rfl) (by rfl) (by rfl) (by exact wn2 rfl rfl rfl rfl) ?_
   refine PR_off (by rfl) (by rfl) (by rfl) (by exact wn2 rfl rfl rfl rfl) ?_
   refine PR_offF (by rfl) (by rfl) (by rfl) (by exact wn2 rfl rfl rfl rfl) ?_
   refine PR_off (by rfl) (by rfl) (by rfl) (by exact wn2 rfl rfl rfl rfl) ?_
   refine PR_offF (by rfl) (by rfl) (by rfl) (by exact wn2 rfl rfl rfl rfl) ?_
   refine PR_offF (by rfl) (by rfl) (by rfl) (by exact wn2 rfl rfl rfl rfl) ?_
   refine PR_free (by rfl) (by rfl) (by rfl) (by exact wn0 rfl) (fun wS => (x_pick_f (v := .bool false) (by rfl) (by rfl))) ?_
   refine PR_nil ?_
   exact ⟨⟨congrArg Value.bool (Option.some.inj hm), rfl, rfl, trivial⟩, H⟩
  ·have hm := cond_t hbS hmS
   refine PR_free (by rfl) (by rfl) (by rfl) (by exact wn1 rfl rfl rfl rfl) (fun wS => (x_fieldAddr fo81_0 (by rfl))) ?_
   refine PR_take (by rfl) (by rfl) (by rfl) (by exact wn1 rfl rfl rfl rfl) (fun wS (H : Sep ok w wS [.blk b5 76 [.slice A1 a0.Slots.length cp2], HNB b7 a1] [RE.rd k_Slot A1 cp2 a0.Slots]) => (x_load (j := 0) (v := .int .i64 a1.Slot) sc3 (by rfl) (H.cells (i := 1) (by rfl)) (by rfl))) ?_
   refine PR_free (by rfl) (by rfl) (by rfl) (by exact wn1 rfl rfl rfl rfl) (fun wS => (x_fieldAddr fo76_0 (by rfl))) ?_
   refine PR_take (by rfl) (by rfl) (by rfl) (by exact wn1 rfl rfl rfl rfl) (fun wS (H : Sep ok w wS [.blk b5 76 [.slice A1 a0.Slots.length cp2], HNB b7 a1] [RE.rd k_Slot A1 cp2 a0.Slots]) => (x_load (j := 0) (v := .slice A1 a0.Slots.length cp2) sc74 (by rfl) (H.cells (i := 0) (by rfl)) (by rfl))) ?_
   refine PR_free (by rfl) (by rfl) (by rfl) (by exact wn1 rfl rfl rfl rfl) (fun wS => (x_len sl74 (by rfl))) ?_
   refine PR_free (by rfl) (by rfl) (by rfl) (by exact wn1 rfl rfl rfl rfl) (fun wS => (x_lss (by rfl) (by rfl))) ?_
   refine PR_free (by rfl) (by rfl) (by rfl) (by exact wn0 rfl) (fun wS => (x_pick_t (v := .bool (decide (a1.Slot < (a0.Slots.length : Int)))) (by rfl) (by rfl))) ?_
   refine PR_nil ?_
   exact ⟨⟨congrArg Value.bool (Option.some.inj hm), rfl, rfl, trivial⟩, H⟩
 ·rintro r' w' ⟨hA, H⟩
  obtain ⟨r11, rfl⟩ := regen _ hA; clear hA
  obtain ⟨w12, rfl⟩ : ∃ W : World, W = w' := ⟨_, rfl⟩
  show PR _ _ _ _ _ _ _ _
  refine PR_free (by rfl) (by rfl) (by rfl) (by exact wn0 rfl) (fun wS => (x_move (v := .bool b10) (by rfl))) ?_
  obtain ⟨b13, hmS, hm⟩ := bind_some hm
  refine PR_cut 11 (fun r' w' => Agr [(27, .bool b13)] r' ∧ Sep ok w w' [.blk b5 76 [.slice A1 a0.Slots.length cp2], HNB b7 a1] [RE.rd k_Slot A1 cp2 a0.Slots]) ?_ ?_
  ·cases hbS : b10
   ·have hm := cond_f hbS hmS
    refine PR_offF (by rfl) (by rfl) (by rfl) (by exact wn2 rfl rfl rfl rfl) ?_
    refine PR_off (by rfl) (by rfl) (by rfl) (by exact wn2 rfl rfl rfl rfl) ?_
    refine PR_offF (by rfl) (by rfl) (by rfl) (by exact wn2 rfl rfl rfl rfl) ?_
    refine PR_off (by rfl) (by rfl) (by rfl) (by exact wn2 rfl rfl rfl rfl) ?_
    refine PR_offF (by rfl) (by rfl) (by rfl) (by exact wn2 rfl rfl rfl rfl) ?_
    refine PR_off (by rfl) (by rfl) (by rfl) (by exact wn2 rfl rfl rfl rfl) ?_
    refine PR_offF (by rfl) (by rfl) (by rfl) (by exact wn2 rfl rfl rfl rfl) ?_
    refine PR_off (by rfl) (by rfl) (by rfl) (by exact wn2 rfl rfl rfl rfl) ?_
    refine PR_offF (by rfl) (by rfl) (by rfl) (by exact wn2 rfl rfl rfl rfl) ?_
    refine PR_offF (by rfl) (by rfl) (by rfl) (by exact wn2 rfl rfl rfl rfl) ?_
    refine PR_free (by rfl) (by rfl) (by rfl) (by exact wn0 rfl) (fun wS => (x_pick_f (v := .bool false) (by rfl) (by rfl))) ?_
    refine PR_nil ?_
    exact ⟨⟨congrArg Value.bool (Option.some.inj hm), trivial⟩, H⟩
   ·have hm := cond_t hbS hmS
    refine PR_free (by rfl) (by rfl) (by rfl) (by exact wn1 rfl rfl rfl rfl) (fun wS => (x_fieldAddr fo76_0 (by rfl))) ?_
    refine PR_take (by rfl) (by rfl) (by rfl) (by exact wn1 rfl rfl rfl rfl) (fun wS (H : Sep ok w wS [.blk b5 76 [.slice A1 a0.Slots.length cp2], HNB b7 a1] [RE.rd k_Slot A1 cp2 a0.Slots]) => (x_load (j := 0) (v := .slice A1 a0.Slots.length cp2) sc74 (by rfl) (H.cells (i := 0) (by rfl)) (by rfl))) ?_
    refine PR_free (by rfl) (by rfl) (by rfl) (by exact wn1 rfl rfl rfl rfl) (fun wS => (x_fieldAddr fo81_0 (by rfl))) ?_
    refine PR_take (by rfl) (by rfl) (by rfl) (by exact wn1 rfl rfl rfl rfl) (fun wS (H : Sep ok w wS [.blk b5 76 [.slice A1 a0.Slots.length cp2], HNB b7 a1] [RE.rd k_Slot A1 cp2 a0.Slots]) => (x_load (j := 0) (v := .int .i64 a1.Slot) sc3 (by rfl) (H.cells (i := 1) (by rfl)) (by rfl))) ?_
    obtain ⟨el14, h15, h16, he17, hm⟩ := idx_some hm
    obtain ⟨g19, o20, hA18⟩ := (H.rd (i := 0) (by rfl)).addr he17
    refine PR_free (by rfl) (by rfl) (by rfl) (by exact wn1 rfl rfl rfl rfl) (fun wS => (x_indexAddr sl74 sz96 (by rfl) (by rfl) hA18 h15 h16)) ?_
    refine PR_take (by rfl) (by rfl) (by rfl) (by exact wn1 rfl rfl rfl rfl) (fun wS (H : Sep ok w wS [.blk b5 76 [.slice A1 a0.Slots.length cp2], HNB b7 a1] [RE.rd k_Slot A1 cp2 a0.Slots]) => (x_loadA (j := 0) (vs := [.int .i64 el14.Gen, .bool el14.Live]) ag96 (by rfl) (Rd.flatAt (n := 2) (H.rd (i := 0) (by rfl)) hA18 he17) (by rfl) (by rfl))) ?_
    refine PR_free (by rfl) (by rfl) (by rfl) (by exact wn1 rfl rfl rfl rfl) (fun wS => (x_fieldAddr fo81_1 (by rfl))) ?_
    refine PR_take (by rfl) (by rfl) (by rfl) (by exact wn1 rfl rfl rfl rfl) (fun wS (H : Sep ok w wS [.blk b5 76 [.slice A1 a0.Slots.length cp2], HNB b7 a1] [RE.rd k_Slot A1 cp2 a0.Slots]) => (x_load (j := 1) (v := .int .i64 a1.Gen) sc3 (by rfl) (H.cells (i := 1) (by rfl)) (by rfl))) ?_
    refine PR_free (by rfl) (by rfl) (by rfl) (by exact wn1 rfl rfl rfl rfl) (fun wS => (x_build (vs := [(0, .int .i64 a1.Gen), (1, .bool true)]) (cs := [.int .i64 a1.Gen, .bool true]) (by rfl) (by kernel_rfl))) ?_
    refine PR_free (by rfl) (by rfl) (by rfl) (by exact wn1 rfl rfl rfl rfl) (fun wS => (x_eqls ep96 eg96 (by rfl) (by rfl) (b := ((el14.Gen == a1.Gen) && (el14.Live == true))) (by rfl))) ?_
    refine PR_free (by rfl) (by rfl) (by rfl) (by exact wn0 rfl) (fun wS => (x_pick_t (v := .bool ((el14.Gen == a1.Gen) && (el14.Live == true))) (by rfl) (by rfl))) ?_
    refine PR_nil ?_
    exact ⟨⟨congrArg Value.bool (Option.some.inj hm), trivial⟩, H⟩
  ·rintro r' w' ⟨hA, H⟩
   obtain ⟨r21, rfl⟩ := regen _ hA; clear hA
   obtain ⟨w22, rfl⟩ : ∃ W : World, W = w' := ⟨_, rfl⟩
   show PR _ _ _ _ _ _ _ _
   refine PR_free (by rfl) (by rfl) (by rfl) (by exact wn0 rfl) (fun wS => (x_assign (v := .bool b13) (by rfl))) ?_
   refine PR_nil ?_
   refine W_ret ?_
   obtain rfl := Option.some.inj hm
   exact ⟨[.bool b13], (.tmp (by rfl) rfl), rfl, H.none_⟩
end Go.Proofs.YtobkigllalbkiaaV.M

/- A plain Lean function that answers as the Go function does (none: not told), and the proof that a call answers so. Written by program. -/
set_option linter.unusedVariables false
namespace Go.Proofs.YtobkigllalbkiaaV.M
open Go.RowKit Go.Proofs.YtobkigllalbkiaaV
/-- diorama/arena.Holds -/
def m90 (K : Nat) (a0 : S_Arena) (a1 : S_Handle) : Option (Bool) :=
 ((m88 K a0).bind fun v10 => ((bif (v10 == 0) then ((m120 K a0 a1).bind fun v14 => some v14) else some false).bind fun b12 => some b12))
set_option maxRecDepth 100000 in
set_option maxHeartbeats 4000000 in
theorem c90 (ok : Okp) (K : Nat) (w : World) (a0 : S_Arena) (A1 : Option Addr) (cp2 : Nat) (a1 : S_Handle) (hR3 : Rd k_Slot w ok A1 cp2 a0.Slots) (res : Bool) (hm : m90 K a0 a1 = some res) :
  Calls Try.prog 90 #[.agg #[.slice A1 a0.Slots.length cp2], .agg #[.int .i64 a1.Slot, .int .i64 a1.Gen]] w (fun e w' => e = .returned (tup [.bool res]) ∧ Sep ok w w' [] []) := by
 refine calls_W (args := [.agg #[.slice A1 a0.Slots.length cp2], .agg #[.int .i64 a1.Slot, .int .i64 a1.Gen]]) Try.func90 rfl Try.ntmps90 Try.results90 rfl fun r hr => ?_
 obtain ⟨r1, rfl⟩ := regen (r := r) [(0, .agg #[.slice A1 a0.Slots.length cp2]), (1, .agg #[.int .i64 a1.Slot, .int .i64 a1.Gen])] ⟨hr 0 _ rfl, hr 1 _ rfl, trivial⟩
 have H : Sep ok w w [] [RE.rd k_Slot A1 cp2 a0.Slots] := Sep.arg (Sep.start ok w) (re := RE.rd k_Slot A1 cp2 a0.Slots) rfl rfl hR3
 unfold m90 at hm
 refine W_seq ?_
 refine W_region ?_
 refine RL_cons (O_box (by exact wn0 rfl) (by rfl) (by rfl) (by rfl) H (fun w6 b5 (H : Sep ok w w6 [.blk b5 76 [.slice A1 a0.Slots.length cp2]] [RE.rd k_Slot A1 cp2 a0.Slots]) => ?_))
 refine RL_cons (O_box (by exact wn0 rfl) (by rfl) (by rfl) (by rfl) H (fun w8 b7 (H : Sep ok w w8 [.blk b5 76 [.slice A1 a0.Slots.length cp2], HNB b7 a1] [RE.rd k_Slot A1 cp2 a0.Slots]) => ?_))
 refine RL_p (x_assign (v := .bool false) (by rfl)) ?_
 refine RL_nil ?_
 refine W_seq ?_
 refine W_region ?_
 refine RL_p (x_loadA (j := 0) (vs := [.slice A1 a0.Slots.length cp2]) ag76 (by rfl) (H.cells (i := 0) (by rfl)) (by rfl) (by rfl)) ?_
 obtain ⟨v10, hv9, hm⟩ := bind_some hm
 refine RL_cons (O_call (by exact wn0 rfl) (by rfl) (by rfl) (x_callL (by rfl) (args := [.agg #[.slice A1 a0.Slots.length cp2]]) (by rfl) (cf88 _ _)) (c88 okT K w8 a0 A1 cp2 (H.rd (i := 0) (by rfl)).any v10 hv9) ?_)
 rintro e w11 ⟨rfl, H2⟩
 have H : Sep ok w w11 [.blk b5 76 [.slice A1 a0.Slots.length cp2], HNB b7 a1] [RE.rd k_Slot A1 cp2 a0.Slots] := H.below H2.base
 clear H2
 refine ⟨_, rfl, ?_⟩
 show RL _ _ _ _ _ _ _
 refine RL_p (x_eql (by rfl) (by rfl)) ?_
 refine RL_p (x_move (v := .bool (v10 == 0)) (by rfl)) ?_
 obtain ⟨b12, hmS, hm⟩ := bind_some hm
 refine RL_cut 4 (fun r' w' => Agr [(12, .bool b12)] r' ∧ Sep ok w w' [.blk b5 76 [.slice A1 a0.Slots.length cp2], HNB b7 a1] [RE.rd k_Slot A1 cp2 a0.Slots]) ?_ ?_
 ·cases hbS : (v10 == 0)
  ·have hm := cond_f hbS hmS
   refine RL_cons (OpR_off (by exact wn2 rfl rfl rfl rfl) (by rfl) (by rfl) ?_)
   refine RL_cons (OpR_off (by exact wn2 rfl rfl rfl rfl) (by rfl) (by rfl) ?_)
   refine RL_cons (OpR_off (by exact wn2 rfl rfl rfl rfl) (by rfl) (by rfl) ?_)
   refine RL_p (x_pick_f (v := .bool false) (by rfl) (by rfl)) ?_
   refine RL_nil ?_
   exact ⟨⟨congrArg Value.bool (Option.some.inj hm), trivial⟩, H⟩
  ·have hm := cond_t hbS hmS
   refine RL_pure (by exact wn1 rfl rfl rfl rfl) (by rfl) (by rfl) (x_loadA (j := 0) (vs := [.slice A1 a0.Slots.length cp2]) ag76 (by rfl) (H.cells (i := 0) (by rfl)) (by rfl) (by rfl)) ?_
   refine RL_pure (by exact wn1 rfl rfl rfl rfl) (by rfl) (by rfl) (x_loadA (j := 0) (vs := [.int .i64 a1.Slot, .int .i64 a1.Gen]) ag81 (by rfl) (H.cells (i := 1) (by rfl)) (by rfl) (by rfl)) ?_
   obtain ⟨v14, hv13, hm⟩ := bind_some hm
   refine RL_cons (O_call (by exact wn1 rfl rfl rfl rfl) (by rfl) (by rfl) (x_callL (by rfl) (args := [.agg #[.slice A1 a0.Slots.length cp2], .agg #[.int .i64 a1.Slot, .int .i64 a1.Gen]]) (by rfl) (cf120 _ _)) (c120 okT K w11 a0 A1 cp2 a1 (H.rd (i := 0) (by rfl)).any v14 hv13) ?_)
   rintro e w15 ⟨rfl, H2⟩
   have H : Sep ok w w15 [.blk b5 76 [.slice A1 a0.Slots.length cp2], HNB b7 a1] [RE.rd k_Slot A1 cp2 a0.Slots] := H.below H2.base
   clear H2
   refine ⟨_, rfl, ?_⟩
   show RL _ _ _ _ _ _ _
   refine RL_p (x_pick_t (v := .bool v14) (by rfl) (by rfl)) ?_
   refine RL_nil ?_
   exact ⟨⟨congrArg Value.bool (Option.some.inj hm), trivial⟩, H⟩
 ·rintro r' w' ⟨hA, H⟩
  obtain ⟨r16, rfl⟩ := regen _ hA; clear hA
  obtain ⟨w17, rfl⟩ : ∃ W : World, W = w' := ⟨_, rfl⟩
  show RL _ _ _ _ _ _ _
  refine RL_p (x_assign (v := .bool b12) (by rfl)) ?_
  refine RL_nil ?_
  refine W_ret ?_
  obtain rfl := Option.some.inj hm
  exact ⟨[.bool b12], (.tmp (by rfl) rfl), rfl, H.none_⟩
end Go.Proofs.YtobkigllalbkiaaV.M

/- A plain Lean function that answers as the Go function does (none: not told), and the proof that a call answers so. Written by program. -/
set_option linter.unusedVariables false
namespace Go.Proofs.YtobkigllalbkiaaV.M
open Go.RowKit Go.Proofs.YtobkigllalbkiaaV
/-- diorama/nodes.Check$1 -/
def m89 (K : Nat) (a0 : S_Handle) (f0 : S_Graph) : Option (Bool) :=
 ((m90 K f0.Arena a0).bind fun v15 => some (!v15))
set_option maxRecDepth 100000 in
set_option maxHeartbeats 4000000 in
theorem c89 (ok : Okp) (K : Nat) (w : World) (a0 : S_Handle) (f0 : S_Graph) (A1 : Option Addr) (cp2 : Nat) (A5 : Option Addr) (cp6 : Nat) (g9 : Nat) (hR3 : Rd k_Slot w ok A1 cp2 f0.Arena.Slots) (hR7 : Rd (Kd.slice k_Handle) w ok A5 cp6 f0.Kids) (hF10 : (RE.cells g9 (0) [.slice A1 f0.Arena.Slots.length cp2, .slice A5 f0.Kids.length cp6]).rel w ok) (res : Bool) (hm : m89 K a0 f0 = some res) :
  Calls Try.prog 89 #[.agg #[.int .i64 a0.Slot, .int .i64 a0.Gen], .pointer (some ⟨g9, 0, none⟩)] w (fun e w' => e = .returned (tup [.bool res]) ∧ Sep ok w w' [] []) := by
 refine calls_W (args := [.agg #[.int .i64 a0.Slot, .int .i64 a0.Gen], .pointer (some ⟨g9, 0, none⟩)]) Try.func89 rfl Try.ntmps89 Try.results89 rfl fun r hr => ?_
 obtain ⟨r1, rfl⟩ := regen (r := r) [(0, .agg #[.int .i64 a0.Slot, .int .i64 a0.Gen]), (1, .pointer (some ⟨g9, 0, none⟩))] ⟨hr 0 _ rfl, hr 1 _ rfl, trivial⟩
 have H : Sep ok w w [] [RDS A1 cp2 f0, RDK A5 cp6 f0, RE.cells g9 (0) [.slice A1 f0.Arena.Slots.length cp2, .slice A5 f0.Kids.length cp6]] := Sep.arg (Sep.arg (Sep.arg (Sep.start ok w) (re := RE.rd k_Slot A1 cp2 f0.Arena.Slots) rfl rfl hR3) (re := RE.rd (Kd.slice k_Handle) A5 cp6 f0.Kids) rfl rfl hR7) (re := RE.cells g9 (0) [.slice A1 f0.Arena.Slots.length cp2, .slice A5 f0.Kids.length cp6]) rfl rfl hF10
 unfold m89 at hm
 refine W_seq ?_
 refine W_region ?_
 refine RL_cons (O_box (by exact wn0 rfl) (by rfl) (by rfl) (by rfl) H (fun w13 b12 (H : Sep ok w w13 [HNB b12 a0] [RDS A1 cp2 f0, RDK A5 cp6 f0, RE.cells g9 (0) [.slice A1 f0.Arena.Slots.length cp2, .slice A5 f0.Kids.length cp6]]) => ?_))
 refine RL_p (x_assign (v := .bool false) (by rfl)) ?_
 refine RL_nil ?_
 refine W_seq ?_
 refine W_region ?_
 refine RL_p (x_fieldAddr fo79_0 (by rfl)) ?_
 refine RL_p (x_loadA (j := 0) (vs := [.slice A1 f0.Arena.Slots.length cp2]) ag76 (by rfl) (H.cellsR (i := 2) (by rfl)) (by rfl) (by rfl)) ?_
 refine RL_p (x_loadA (j := 0) (vs := [.int .i64 a0.Slot, .int .i64 a0.Gen]) ag81 (by rfl) (H.cells (i := 0) (by rfl)) (by rfl) (by rfl)) ?_
 obtain ⟨v15, hv14, hm⟩ := bind_some hm
 refine RL_cons (O_call (by exact wn0 rfl) (by rfl) (by rfl) (x_callL (by rfl) (args := [.agg #[.slice A1 f0.Arena.Slots.length cp2], .agg #[.int .i64 a0.Slot, .int .i64 a0.Gen]]) (by rfl) (cf90 _ _)) (c90 okT K w13 f0.Arena A1 cp2 a0 (H.rd (i := 0) (by rfl)).any v15 hv14) ?_)
 rintro e w16 ⟨rfl, H2⟩
 have H : Sep ok w w16 [HNB b12 a0] [RDS A1 cp2 f0, RDK A5 cp6 f0, RE.cells g9 (0) [.slice A1 f0.Arena.Slots.length cp2, .slice A5 f0.Kids.length cp6]] := H.below H2.base
 clear H2
 refine ⟨_, rfl, ?_⟩
 show RL _ _ _ _ _ _ _
 refine RL_p (x_not (by rfl)) ?_
 refine RL_p (x_assign (v := .bool (!v15)) (by rfl)) ?_
 refine RL_nil ?_
 refine W_ret ?_
 obtain rfl := Option.some.inj hm
 exact ⟨[.bool (!v15)], (.tmp (by rfl) rfl), rfl, H.none_⟩
end Go.Proofs.YtobkigllalbkiaaV.M

/- A plain Lean function that answers as the Go function does (none: not told), and the proof that a call answers so. Written by program. -/
set_option linter.unusedVariables false
namespace Go.Proofs.YtobkigllalbkiaaV.M
open Go.RowKit Go.Proofs.YtobkigllalbkiaaV
/-- diorama/nodes.below -/
def m93 (K : Nat) (g : S_Graph) (hs : List (Int × Int)) (frm to : S_Handle) : Option (Bool × List (Int × Int)) := m124 K to g K hs frm
set_option maxRecDepth 100000 in
set_option maxHeartbeats 4000000 in
theorem c93 (ok : Okp) (K : Nat) (w wc : World) (b : Nat) (hs : List (Int × Int)) (g : S_Graph) (A1 : Option Addr) (cp1 : Nat) (A5 : Option Addr) (cp5 : Nat) (frm to : S_Handle) (H : Sep ok w wc [.mset b hs] [RE.rd (Kd.slice k_Handle) A5 cp5 g.Kids]) (res : Bool × List (Int × Int)) (hm : m93 K g hs frm to = some res) :
  Calls Try.prog 93 #[.agg #[.slice A1 g.Arena.Slots.length cp1, .slice A5 g.Kids.length cp5], .map (some b), .agg #[.int .i64 frm.Slot, .int .i64 frm.Gen], .agg #[.int .i64 to.Slot, .int .i64 to.Gen]] wc (fun e w' => e = .returned (tup [.bool res.1]) ∧ Sep ok w w' [.mset b res.2] [RE.rd (Kd.slice k_Handle) A5 cp5 g.Kids]) := by
 refine calls_W (args := [.agg #[.slice A1 g.Arena.Slots.length cp1, .slice A5 g.Kids.length cp5], .map (some b), .agg #[.int .i64 frm.Slot, .int .i64 frm.Gen], .agg #[.int .i64 to.Slot, .int .i64 to.Gen]]) Try.func93 rfl Try.ntmps93 Try.results93 rfl fun r hr => ?_
 obtain ⟨r1, rfl⟩ := regen (r := r) [(0, .agg #[.slice A1 g.Arena.Slots.length cp1, .slice A5 g.Kids.length cp5]), (1, .map (some b)), (2, .agg #[.int .i64 frm.Slot, .int .i64 frm.Gen]), (3, .agg #[.int .i64 to.Slot, .int .i64 to.Gen])] ⟨hr 0 _ rfl, hr 1 _ rfl, hr 2 _ rfl, hr 3 _ rfl, trivial⟩
 unfold m93 at hm
 refine W_seq ?_
 refine W_region ?_
 refine RL_cons (O_box (by exact wn0 rfl) (by rfl) (by rfl) (by rfl) H (fun w1 b4 (H : Sep ok w w1 [.mset b hs, .blk b4 79 [.slice A1 g.Arena.Slots.length cp1, .slice A5 g.Kids.length cp5]] [RE.rd (Kd.slice k_Handle) A5 cp5 g.Kids]) => ?_))
 refine RL_cons (O_box (by exact wn0 rfl) (by rfl) (by rfl) (by rfl) H (fun w2 b5 (H : Sep ok w w2 [.mset b hs, .blk b4 79 [.slice A1 g.Arena.Slots.length cp1, .slice A5 g.Kids.length cp5], .blk b5 144 [.map (some b)]] [RE.rd (Kd.slice k_Handle) A5 cp5 g.Kids]) => ?_))
 refine RL_cons (O_box (by exact wn0 rfl) (by rfl) (by rfl) (by rfl) H (fun w3 b6 (H : Sep ok w w3 [.mset b hs, .blk b4 79 [.slice A1 g.Arena.Slots.length cp1, .slice A5 g.Kids.length cp5], .blk b5 144 [.map (some b)], .blk b6 81 [.int .i64 frm.Slot, .int .i64 frm.Gen]] [RE.rd (Kd.slice k_Handle) A5 cp5 g.Kids]) => ?_))
 refine RL_cons (O_box (by exact wn0 rfl) (by rfl) (by rfl) (by rfl) H (fun w4 b7 (H : Sep ok w w4 [.mset b hs, .blk b4 79 [.slice A1 g.Arena.Slots.length cp1, .slice A5 g.Kids.length cp5], .blk b5 144 [.map (some b)], .blk b6 81 [.int .i64 frm.Slot, .int .i64 frm.Gen], .blk b7 81 [.int .i64 to.Slot, .int .i64 to.Gen]] [RE.rd (Kd.slice k_Handle) A5 cp5 g.Kids]) => ?_))
 refine RL_pure (by exact wn0 rfl) (by rfl) (by rfl) (x_assign (v := .bool false) (by rfl)) ?_
 refine RL_nil ?_
 refine W_seq ?_
 refine W_region ?_
 refine RL_cons (O_alloc (by exact wn0 rfl) (by rfl) zf139 (by rfl) H (fun w5 b9 (H : Sep ok w w5 [.mset b hs, .blk b4 79 [.slice A1 g.Arena.Slots.length cp1, .slice A5 g.Kids.length cp5], .blk b5 144 [.map (some b)], .blk b6 81 [.int .i64 frm.Slot, .int .i64 frm.Gen], .blk b7 81 [.int .i64 to.Slot, .int .i64 to.Gen], .blk b9 139 [.nilFunc]] [RE.rd (Kd.slice k_Handle) A5 cp5 g.Kids]) => ?_))
 refine RL_nil ?_
 refine W_seq ?_
 refine W_region ?_
 refine RL_pure (by exact wn0 rfl) (by rfl) (by rfl) (x_makeFunc (vs := [.pointer (some ⟨b7, 0, none⟩), .pointer (some ⟨b5, 0, none⟩), .pointer (some ⟨b4, 0, none⟩), .pointer (some ⟨b9, 0, none⟩)]) (by rfl)) ?_
 refine RL_cons (O_store (i := 5) (off := 0) (by exact wn0 rfl) (by rfl) (by rfl) H (by rfl) (vs := [.func (.func 124) #[] #[.pointer (some ⟨b7, 0, none⟩), .pointer (some ⟨b5, 0, none⟩), .pointer (some ⟨b4, 0, none⟩), .pointer (some ⟨b9, 0, none⟩)]]) (by rfl) sz139 (by rfl) (by rfl) (by rfl) (fun w6 (H : Sep ok w w6 [.mset b hs, .blk b4 79 [.slice A1 g.Arena.Slots.length cp1, .slice A5 g.Kids.length cp5], .blk b5 144 [.map (some b)], .blk b6 81 [.int .i64 frm.Slot, .int .i64 frm.Gen], .blk b7 81 [.int .i64 to.Slot, .int .i64 to.Gen], .blk b9 139 [.func (.func 124) #[] #[.pointer (some ⟨b7, 0, none⟩), .pointer (some ⟨b5, 0, none⟩), .pointer (some ⟨b4, 0, none⟩), .pointer (some ⟨b9, 0, none⟩)]]] [RE.rd (Kd.slice k_Handle) A5 cp5 g.Kids]) => ?_))
 refine RL_nil ?_
 refine W_seq ?_
 refine W_region ?_
 refine RL_pure (by exact wn0 rfl) (by rfl) (by rfl) (x_load (j := 0) (v := .func (.func 124) #[] #[.pointer (some ⟨b7, 0, none⟩), .pointer (some ⟨b5, 0, none⟩), .pointer (some ⟨b4, 0, none⟩), .pointer (some ⟨b9, 0, none⟩)]) sc139 (by rfl) (H.cells (i := 5) (by rfl)) (by rfl)) ?_
 refine RL_pure (by exact wn0 rfl) (by rfl) (by rfl) (x_loadA (j := 0) (vs := [.int .i64 frm.Slot, .int .i64 frm.Gen]) ag81 (by rfl) (H.cells (i := 3) (by rfl)) (by rfl) (by rfl)) ?_
 have H2 := H.lend (i := 0) (by rfl)
 have H2 := H.lendRd (i := 0) H2 (by rfl) (H.rd (i := 0) (by rfl))
 have H2 := H.lendBlk (i := 0) (j := 4) H2 (by rfl) (by rfl) (by decide)
 have H2 := H.lendBlk (i := 0) (j := 2) H2 (by rfl) (by rfl) (by decide)
 have H2 := H.lendBlk (i := 0) (j := 1) H2 (by rfl) (by rfl) (by decide)
 have H2 := H.lendBlk (i := 0) (j := 5) H2 (by rfl) (by rfl) (by decide)
 refine RL_cons (O_call (by exact wn0 rfl) (by rfl) (by rfl) (x_callL (by rfl) (args := [.agg #[.int .i64 frm.Slot, .int .i64 frm.Gen], .pointer (some ⟨b7, 0, none⟩), .pointer (some ⟨b5, 0, none⟩), .pointer (some ⟨b4, 0, none⟩), .pointer (some ⟨b9, 0, none⟩)]) (by rfl) (cf124 _ _)) (c124 K b to g b7 b5 b4 b9 A1 cp1 A5 cp5 K _ w6 hs w6 frm res H2 hm) ?_)
 rintro e w7 ⟨rfl, H3⟩
 have H : Sep ok w w7 [.mset b res.2, .blk b4 79 [.slice A1 g.Arena.Slots.length cp1, .slice A5 g.Kids.length cp5], .blk b5 144 [.map (some b)], .blk b6 81 [.int .i64 frm.Slot, .int .i64 frm.Gen], .blk b7 81 [.int .i64 to.Slot, .int .i64 to.Gen], .blk b9 139 [.func (.func 124) #[] #[.pointer (some ⟨b7, 0, none⟩), .pointer (some ⟨b5, 0, none⟩), .pointer (some ⟨b4, 0, none⟩), .pointer (some ⟨b9, 0, none⟩)]]] [RE.rd (Kd.slice k_Handle) A5 cp5 g.Kids] := H.back (i := 0) (by rfl) H3
 refine ⟨_, rfl, ?_⟩
 show RL _ _ _ _ _ _ _
 refine RL_pure (by exact wn0 rfl) (by rfl) (by rfl) (x_assign (v := .bool res.1) (by rfl)) ?_
 refine RL_nil ?_
 refine W_ret ?_
 exact ⟨[.bool res.1], (.tmp (by rfl) rfl), rfl, H.takeL 1⟩
end Go.Proofs.YtobkigllalbkiaaV.M

/- A plain Lean function that answers as the Go function does (none: not told), and the proof that a call answers so. Written by program. -/
set_option linter.unusedVariables false
namespace Go.Proofs.YtobkigllalbkiaaV.M
open Go.RowKit Go.Proofs.YtobkigllalbkiaaV
/-- the test that Check hands on: does a child reach the node itself? -/
def m92 (K : Nat) (g : S_Graph) (self : S_Handle) (hs : List (Int × Int)) (h : S_Handle) : Option (Bool × List (Int × Int)) := m93 K g hs h self
abbrev ChkS (ok : Okp) (w : World) (b : Nat) (g : S_Graph) (self : S_Handle) (gg gs gh : Nat) (A1 : Option Addr) (cp1 : Nat) (A5 : Option Addr) (cp5 : Nat) (seen : List (Int × Int)) (wS : World) : Prop :=
 Sep ok w wS [.mset b seen] [RE.rd (Kd.slice k_Handle) A5 cp5 g.Kids, RE.cells gg 0 [.slice A1 g.Arena.Slots.length cp1, .slice A5 g.Kids.length cp5], RE.cells gs 0 [.map (some b)], RE.cells gh 0 [.int .i64 self.Slot, .int .i64 self.Gen]]
set_option maxRecDepth 100000 in
set_option maxHeartbeats 4000000 in
theorem c92 (ok : Okp) (K : Nat) (w wc : World) (b : Nat) (g : S_Graph) (self : S_Handle) (gg gs gh : Nat) (A1 : Option Addr) (cp1 : Nat) (A5 : Option Addr) (cp5 : Nat) (seen : List (Int × Int)) (a0 : S_Handle) (H : ChkS ok w b g self gg gs gh A1 cp1 A5 cp5 seen wc) (res : Bool × List (Int × Int)) (hm : m92 K g self seen a0 = some res) :
  Calls Try.prog 92 #[.agg #[.int .i64 a0.Slot, .int .i64 a0.Gen], .pointer (some ⟨gg, 0, none⟩), .pointer (some ⟨gs, 0, none⟩), .pointer (some ⟨gh, 0, none⟩)] wc (fun e w' => e = .returned (tup [.bool res.1]) ∧ ChkS ok w b g self gg gs gh A1 cp1 A5 cp5 res.2 w') := by
 refine calls_W (args := [.agg #[.int .i64 a0.Slot, .int .i64 a0.Gen], .pointer (some ⟨gg, 0, none⟩), .pointer (some ⟨gs, 0, none⟩), .pointer (some ⟨gh, 0, none⟩)]) Try.func92 rfl Try.ntmps92 Try.results92 rfl fun r hr => ?_
 obtain ⟨r1, rfl⟩ := regen (r := r) [(0, .agg #[.int .i64 a0.Slot, .int .i64 a0.Gen]), (1, .pointer (some ⟨gg, 0, none⟩)), (2, .pointer (some ⟨gs, 0, none⟩)), (3, .pointer (some ⟨gh, 0, none⟩))] ⟨hr 0 _ rfl, hr 1 _ rfl, hr 2 _ rfl, hr 3 _ rfl, trivial⟩
 unfold m92 at hm
 refine W_seq ?_
 refine W_region ?_
 refine RL_cons (O_box (by exact wn0 rfl) (by rfl) (by rfl) (by rfl) H (fun w1 b4 (H : Sep ok w w1 [.mset b seen, .blk b4 81 [.int .i64 a0.Slot, .int .i64 a0.Gen]] [RE.rd (Kd.slice k_Handle) A5 cp5 g.Kids, RE.cells gg 0 [.slice A1 g.Arena.Slots.length cp1, .slice A5 g.Kids.length cp5], RE.cells gs 0 [.map (some b)], RE.cells gh 0 [.int .i64 self.Slot, .int .i64 self.Gen]]) => ?_))
 refine RL_pure (by exact wn0 rfl) (by rfl) (by rfl) (x_assign (v := .bool false) (by rfl)) ?_
 refine RL_nil ?_
 refine W_seq ?_
 refine W_region ?_
 refine RL_pure (by exact wn0 rfl) (by rfl) (by rfl) (x_loadA (j := 0) (vs := [.slice A1 g.Arena.Slots.length cp1, .slice A5 g.Kids.length cp5]) ag79 (by rfl) (H.cellsR (i := 1) (by rfl)) (by rfl) (by rfl)) ?_
 refine RL_pure (by exact wn0 rfl) (by rfl) (by rfl) (x_load (j := 0) (v := .map (some b)) sc144 (by rfl) (H.cellsR (i := 2) (by rfl)) (by rfl)) ?_
 refine RL_pure (by exact wn0 rfl) (by rfl) (by rfl) (x_loadA (j := 0) (vs := [.int .i64 a0.Slot, .int .i64 a0.Gen]) ag81 (by rfl) (H.cells (i := 1) (by rfl)) (by rfl) (by rfl)) ?_
 refine RL_pure (by exact wn0 rfl) (by rfl) (by rfl) (x_loadA (j := 0) (vs := [.int .i64 self.Slot, .int .i64 self.Gen]) ag81 (by rfl) (H.cellsR (i := 3) (by rfl)) (by rfl) (by rfl)) ?_
 have H2 := H.lend (i := 0) (by rfl)
 have H2 := H.lendRd (i := 0) H2 (by rfl) (H.rd (i := 0) (by rfl))
 refine RL_cons (O_call (by exact wn0 rfl) (by rfl) (by rfl) (x_callL (by rfl) (args := [.agg #[.slice A1 g.Arena.Slots.length cp1, .slice A5 g.Kids.length cp5], .map (some b), .agg #[.int .i64 a0.Slot, .int .i64 a0.Gen], .agg #[.int .i64 self.Slot, .int .i64 self.Gen]]) (by rfl) (cf93 _ _)) (c93 _ K w1 w1 b seen g A1 cp1 A5 cp5 a0 self H2 res hm) ?_)
 rintro e w7 ⟨rfl, H3⟩
 have H : Sep ok w w7 [.mset b res.2, .blk b4 81 [.int .i64 a0.Slot, .int .i64 a0.Gen]] [RE.rd (Kd.slice k_Handle) A5 cp5 g.Kids, RE.cells gg 0 [.slice A1 g.Arena.Slots.length cp1, .slice A5 g.Kids.length cp5], RE.cells gs 0 [.map (some b)], RE.cells gh 0 [.int .i64 self.Slot, .int .i64 self.Gen]] := H.back (i := 0) (by rfl) H3
 refine ⟨_, rfl, ?_⟩
 show RL _ _ _ _ _ _ _
 refine RL_pure (by exact wn0 rfl) (by rfl) (by rfl) (x_assign (v := .bool res.1) (by rfl)) ?_
 refine RL_nil ?_
 refine W_ret ?_
 exact ⟨[.bool res.1], (.tmp (by rfl) rfl), rfl, H.takeL 1⟩
end Go.Proofs.YtobkigllalbkiaaV.M

/- A plain Lean function that answers as the Go function does (none: not told), and the proof that a call answers so. Written by program. -/
set_option linter.unusedVariables false
namespace Go.Proofs.YtobkigllalbkiaaV.M
open Go.RowKit Go.Proofs.YtobkigllalbkiaaV
def m43_l2b (K : Nat) (a0 : S_Graph) (rec2 : (List (Int × Int)) → Int → Option (Int)) (hs_b56_2 : (List (Int × Int))) (y61_2 : Int) : Option (Int) :=
 (bif (decide (y61_2 < (a0.Kids.length : Int))) then (idx a0.Kids y61_2 fun el63 => (idx a0.Arena.Slots y61_2 fun el80 => ((anyS (m92 K a0 (⟨y61_2, el80.Gen⟩ : S_Handle)) ([] : List (Int × Int)) 0 el63).bind fun v92 => (bif (decide (0 ≤ v92.1)) then some 8 else (ck (y61_2 + 1) fun x94 => (rec2 v92.2 x94)))))) else some 0)
def m43_l2 (K : Nat) (a0 : S_Graph) : Nat → (List (Int × Int)) → Int → Option (Int)
 | 0 => fun _ _ => none
 | k + 1 => m43_l2b K a0 (m43_l2 K a0 k)
def m43_l1b (K : Nat) (a0 : S_Graph) (rec1 : Int → Option (Int)) (y27_1 : Int) : Option (Int) :=
 (bif (decide (y27_1 < (a0.Kids.length : Int))) then (idx a0.Kids y27_1 fun el19 => ((bif (decide (16 < (el19.length : Int))) then some true else ((bif (decide (0 < (el19.length : Int))) then (idx a0.Arena.Slots y27_1 fun el38 => some (!el38.Live)) else some false).bind fun b37 => some b37)).bind fun b36 => ((bif b36 then some true else ((anyS (fun (_ : Unit) (x : S_Handle) => (m89 K x a0).map fun b => (b, ())) () 0 el19).bind fun v51 => some (decide (0 ≤ v51.1)))).bind fun b49 => (bif b49 then some 8 else (ck (y27_1 + 1) fun x55 => (rec1 x55)))))) else m43_l2 K a0 K ([]) 0)
def m43_l1 (K : Nat) (a0 : S_Graph) : Nat → Int → Option (Int)
 | 0 => fun _ => none
 | k + 1 => m43_l1b K a0 (m43_l1 K a0 k)
/-- diorama/nodes.Check -/
def m43 (K : Nat) (a0 : S_Graph) : Option (Int) :=
 ((m88 K a0.Arena).bind fun v12 => ((bif (v12 != 0) then some true else some ((a0.Kids.length : Int) != (a0.Arena.Slots.length : Int))).bind fun b14 => (bif b14 then some 8 else m43_l1 K a0 K 0)))
set_option maxRecDepth 100000 in
set_option maxHeartbeats 4000000 in
theorem c43 (ok : Okp) (K : Nat) (w : World) (a0 : S_Graph) (A1 : Option Addr) (cp2 : Nat) (A5 : Option Addr) (cp6 : Nat) (hR3 : Rd k_Slot w ok A1 cp2 a0.Arena.Slots) (hR7 : Rd (Kd.slice k_Handle) w ok A5 cp6 a0.Kids) (res : Int) (hm : m43 K a0 = some res) :
  Calls Try.prog 43 #[.agg #[.slice A1 a0.Arena.Slots.length cp2, .slice A5 a0.Kids.length cp6]] w (fun e w' => e = .returned (tup [.int .i64 res]) ∧ Sep ok w w' [] []) := by
 refine calls_W (args := [.agg #[.slice A1 a0.Arena.Slots.length cp2, .slice A5 a0.Kids.length cp6]]) Try.func43 rfl Try.ntmps43 Try.results43 rfl fun r hr => ?_
 obtain ⟨r1, rfl⟩ := regen (r := r) [(0, .agg #[.slice A1 a0.Arena.Slots.length cp2, .slice A5 a0.Kids.length cp6])] ⟨hr 0 _ rfl, trivial⟩
 have H : Sep ok w w [] [RDS A1 cp2 a0, RDK A5 cp6 a0] := Sep.arg (Sep.arg (Sep.start ok w) (re := RE.rd k_Slot A1 cp2 a0.Arena.Slots) rfl rfl hR3) (re := RE.rd (Kd.slice k_Handle) A5 cp6 a0.Kids) rfl rfl hR7
 unfold m43 at hm
 refine W_seq ?_
 refine W_region ?_
 refine RL_cons (O_box (by exact wn0 rfl) (by rfl) (by rfl) (by rfl) H (fun w10 b9 (H : Sep ok w w10 [GRB b9 A1 cp2 A5 cp6 a0] [RDS A1 cp2 a0, RDK A5 cp6 a0]) => ?_))
 refine RL_p (x_assign (v := .int .i64 0) (by rfl)) ?_
 refine RL_nil ?_
 refine W_seq ?_
 refine W_seq ?_
 refine W_region ?_
 refine RL_p (x_fieldAddr fo79_0 (by rfl)) ?_
 refine RL_p (x_loadA (j := 0) (vs := [.slice A1 a0.Arena.Slots.length cp2]) ag76 (by rfl) (H.cells (i := 0) (by rfl)) (by rfl) (by rfl)) ?_
 obtain ⟨v12, hv11, hm⟩ := bind_some hm
 refine RL_cons (O_call (by exact wn0 rfl) (by rfl) (by rfl) (x_callL (by rfl) (args := [.agg #[.slice A1 a0.Arena.Slots.length cp2]]) (by rfl) (cf88 _ _)) (c88 okT K w10 a0.Arena A1 cp2 (H.rd (i := 0) (by rfl)).any v12 hv11) ?_)
 rintro e w13 ⟨rfl, H2⟩
 have H : Sep ok w w13 [GRB b9 A1 cp2 A5 cp6 a0] [RDS A1 cp2 a0, RDK A5 cp6 a0] := H.below H2.base
 clear H2
 refine ⟨_, rfl, ?_⟩
 show RL _ _ _ _ _ _ _
 refine RL_p (x_neq (by rfl) (by rfl)) ?_
 refine RL_p (x_move (v := .bool (v12 != 0)) (by rfl)) ?_
 obtain ⟨b14, hmS, hm⟩ := bind_some hm
 refine RL_cut 9 (fun r' w' => Agr [(23, .bool b14), (1, .pointer (some ⟨b9, 0, none⟩))] r' ∧ Sep ok w w' [GRB b9 A1 cp2 A5 cp6 a0] [RDS A1 cp2 a0, RDK A5 cp6 a0]) ?_ ?_
 ·cases hbS : (v12 != 0)
  ·have hm := cond_f hbS hmS
   refine RL_pure (by exact wn1 rfl rfl rfl rfl) (by rfl) (by rfl) (x_fieldAddr fo79_1 (by rfl)) ?_
   refine RL_pure (by exact wn1 rfl rfl rfl rfl) (by rfl) (by rfl) (x_load (j := 1) (v := .slice A5 a0.Kids.length cp6) sc77 (by rfl) (H.cells (i := 0) (by rfl)) (by rfl)) ?_
   refine RL_pure (by exact wn1 rfl rfl rfl rfl) (by rfl) (by rfl) (x_len sl77 (by rfl)) ?_
   refine RL_pure (by exact wn1 rfl rfl rfl rfl) (by rfl) (by rfl) (x_fieldAddr fo79_0 (by rfl)) ?_
   refine RL_pure (by exact wn1 rfl rfl rfl rfl) (by rfl) (by rfl) (x_fieldAddr fo76_0 (by rfl)) ?_
   refine RL_pure (by exact wn1 rfl rfl rfl rfl) (by rfl) (by rfl) (x_load (j := 0) (v := .slice A1 a0.Arena.Slots.length cp2) sc74 (by rfl) (H.cells (i := 0) (by rfl)) (by rfl)) ?_
   refine RL_pure (by exact wn1 rfl rfl rfl rfl) (by rfl) (by rfl) (x_len sl74 (by rfl)) ?_
   refine RL_pure (by exact wn1 rfl rfl rfl rfl) (by rfl) (by rfl) (x_neq (by rfl) (by rfl)) ?_
   refine RL_p (x_pick_f (v := .bool ((a0.Kids.length : Int) != (a0.Arena.Slots.length : Int))) (by rfl) (by rfl)) ?_
   refine RL_nil ?_
   exact ⟨⟨congrArg Value.bool (Option.some.inj hm), rfl, trivial⟩, H⟩
  ·have hm := cond_t hbS hmS
   refine RL_cons (OpR_off (by exact wn2 rfl rfl rfl rfl) (by rfl) (by rfl) ?_)
   refine RL_cons (OpR_off (by exact wn2 rfl rfl rfl rfl) (by rfl) (by rfl) ?_)
   refine RL_cons (OpR_off (by exact wn2 rfl rfl rfl rfl) (by rfl) (by rfl) ?_)
   refine RL_cons (OpR_off (by exact wn2 rfl rfl rfl rfl) (by rfl) (by rfl) ?_)
   refine RL_cons (OpR_off (by exact wn2 rfl rfl rfl rfl) (by rfl) (by rfl) ?_)
   refine RL_cons (OpR_off (by exact wn2 rfl rfl rfl rfl) (by rfl) (by rfl) ?_)
   refine RL_cons (OpR_off (by exact wn2 rfl rfl rfl rfl) (by rfl) (by rfl) ?_)
   refine RL_cons (OpR_off (by exact wn2 rfl rfl rfl rfl) (by rfl) (by rfl) ?_)
   refine RL_p (x_pick_t (v := .bool true) (by rfl) (by rfl)) ?_
   refine RL_nil ?_
   exact ⟨⟨congrArg Value.bool (Option.some.inj hm), rfl, trivial⟩, H⟩
 ·rintro r' w' ⟨hA, H⟩
  obtain ⟨r15, rfl⟩ := regen _ hA; clear hA
  obtain ⟨w16, rfl⟩ : ∃ W : World, W = w' := ⟨_, rfl⟩
  show RL _ _ _ _ _ _ _
  refine RL_nil ?_
  refine W_cond (by rfl) (fun hb => ?_) (fun hb => ?_)
  ·have hm := cond_t hb hm
   refine W_seq ?_
   refine W_region ?_
   refine RL_p (x_assign (v := .int .i64 8) (by rfl)) ?_
   refine RL_nil ?_
   refine W_ret ?_
   obtain rfl := Option.some.inj hm
   exact ⟨[.int .i64 8], (.tmp (by rfl) rfl), rfl, H.none_⟩
  ·have hm := cond_f hb hm
   refine W_skip ?_
   refine W_seq ?_
   refine W_seq ?_
   refine W_region ?_
   refine RL_p (x_fieldAddr fo79_1 (by rfl)) ?_
   refine RL_p (x_load (j := 1) (v := .slice A5 a0.Kids.length cp6) sc77 (by rfl) (H.cells (i := 0) (by rfl)) (by rfl)) ?_
   refine RL_p (x_len sl77 (by rfl)) ?_
   refine RL_p (x_move (v := .int .i64 0) (by rfl)) ?_
   refine RL_nil ?_
   refine W_block ?_
   refine W_loop (fun k1 r' w' => ∃ (y27_1 : Int), m43_l1 K a0 k1 y27_1 = some res ∧ Agr [(1, .pointer (some ⟨b9, 0, none⟩)), (25, .slice A5 a0.Kids.length cp6), (26, .int .i64 (a0.Kids.length : Int)), (27, .int .i64 y27_1)] r' ∧ Sep ok w w' [GRB b9 A1 cp2 A5 cp6 a0] [RDS A1 cp2 a0, RDK A5 cp6 a0]) K ?_ ?_
   ·exact ⟨0, hm, ⟨rfl, rfl, rfl, rfl, trivial⟩, H⟩
   ·rintro k1 r' w' ⟨y27_1, hm, hA, H⟩
    obtain ⟨r17, rfl⟩ := regen _ hA; clear hA
    obtain ⟨w18, rfl⟩ : ∃ W : World, W = w' := ⟨_, rfl⟩
    cases k1 with
    | zero => exact (none_some hm).elim
    | succ k1 =>
     have hm : m43_l1b K a0 (m43_l1 K a0 k1) y27_1 = some res := hm
     unfold m43_l1b at hm
     obtain ⟨rec1, hrec1⟩ : ∃ f, m43_l1 K a0 k1 = f := ⟨_, rfl⟩
     rw [hrec1] at hm
     refine W_seq ?_
     refine W_region ?_
     refine RL_p (x_lss (by rfl) (by rfl)) ?_
     refine RL_nil ?_
     refine W_seq ?_
     refine W_cond (by rfl) (fun hb => ?_) (fun hb => ?_)
     ·have hm := cond_t hb hm
      refine W_skip ?_
      refine W_seq ?_
      refine W_block ?_
      refine W_seq ?_
      refine W_region ?_
      refine RL_p (x_move (v := .int .i64 y27_1) (by rfl)) ?_
      obtain ⟨el19, h20, h21, he22, hm⟩ := idx_some hm
      obtain ⟨g24, o25, hA23⟩ := (H.rd (i := 1) (by rfl)).addr he22
      obtain ⟨cs26, hk27, hat28, hg_cs26⟩ := (H.rd (i := 1) (by rfl)).openAt hA23 he22
      obtain ⟨A31, cp32, rfl, hR34⟩ := hk27
      have H : Sep ok w w18 [GRB b9 A1 cp2 A5 cp6 a0] [RDS A1 cp2 a0, RDK A5 cp6 a0, RE.cells g24 (o25 + (y27_1).toNat * 1) [.slice A31 el19.length cp32]] := Sep.also H (re := RE.cells g24 (o25 + (y27_1).toNat * 1) [.slice A31 el19.length cp32]) ⟨hg_cs26, hat28⟩
      have H : Sep ok w w18 [GRB b9 A1 cp2 A5 cp6 a0] [RDS A1 cp2 a0, RDK A5 cp6 a0, RE.cells g24 (o25 + (y27_1).toNat * 1) [.slice A31 el19.length cp32], RE.rd k_Handle A31 cp32 el19] := Sep.also H (re := RE.rd k_Handle A31 cp32 el19) hR34
      refine RL_p (x_indexAddr sl77 sz87 (by rfl) (by rfl) hA23 h20 h21) ?_
      refine RL_p (x_load (j := 0) (v := .slice A31 el19.length cp32) sc87 (by rfl) (H.cellsR (i := 2) (by rfl)) (by rfl)) ?_
      refine RL_p (x_assign (v := .int .i64 y27_1) (by rfl)) ?_
      refine RL_p (x_assign (v := .slice A31 el19.length cp32) (by rfl)) ?_
      refine RL_nil ?_
      refine W_seq ?_
      refine W_region ?_
      refine RL_p (x_makeFunc (vs := [.pointer (some ⟨b9, 0, none⟩)]) (by rfl)) ?_
      refine RL_p (x_assign (v := .func (.func 89) #[] #[.pointer (some ⟨b9, 0, none⟩)]) (by rfl)) ?_
      refine RL_nil ?_
      refine W_seq ?_
      refine W_region ?_
      refine RL_p (x_move (v := .slice A31 el19.length cp32) (by rfl)) ?_
      refine RL_p (x_len sl87 (by rfl)) ?_
      refine RL_p (x_gtr (by rfl) (by rfl)) ?_
      refine RL_p (x_move (v := .bool (decide (16 < (el19.length : Int)))) (by rfl)) ?_
      obtain ⟨b36, hmS, hm⟩ := bind_some hm
      refine RL_cut 14 (fun r' w' => Agr [(50, .bool b36), (1, .pointer (some ⟨b9, 0, none⟩)), (4, .slice A31 el19.length cp32), (5, .func (.func 89) #[] #[.pointer (some ⟨b9, 0, none⟩)]), (25, .slice A5 a0.Kids.length cp6), (26, .int .i64 (a0.Kids.length : Int)), (27, .int .i64 y27_1)] r' ∧ Sep ok w w' [GRB b9 A1 cp2 A5 cp6 a0] [RDS A1 cp2 a0, RDK A5 cp6 a0, RE.cells g24 (o25 + (y27_1).toNat * 1) [.slice A31 el19.length cp32], RE.rd k_Handle A31 cp32 el19]) ?_ ?_
      ·cases hbS : (decide (16 < (el19.length : Int)))
       ·have hm := cond_f hbS hmS
        refine RL_pure (by exact wn1 rfl rfl rfl rfl) (by rfl) (by rfl) (x_move (v := .slice A31 el19.length cp32) (by rfl)) ?_
        refine RL_pure (by exact wn1 rfl rfl rfl rfl) (by rfl) (by rfl) (x_len sl87 (by rfl)) ?_
        refine RL_pure (by exact wn1 rfl rfl rfl rfl) (by rfl) (by rfl) (x_gtr (by rfl) (by rfl)) ?_
        refine RL_pure (by exact wn1 rfl rfl rfl rfl) (by rfl) (by rfl) (x_move (v := .bool (decide (0 < (el19.length : Int)))) (by rfl)) ?_
        obtain ⟨b37, hmS, hm⟩ := bind_some hm
        refine RL_cut 9 (fun r' w' => Agr [(49, .bool b37), (1, .pointer (some ⟨b9, 0, none⟩)), (4, .slice A31 el19.length cp32), (5, .func (.func 89) #[] #[.pointer (some ⟨b9, 0, none⟩)]), (25, .slice A5 a0.Kids.length cp6), (26, .int .i64 (a0.Kids.length : Int)), (27, .int .i64 y27_1), (36, .bool false)] r' ∧ Sep ok w w' [GRB b9 A1 cp2 A5 cp6 a0] [RDS A1 cp2 a0, RDK A5 cp6 a0, RE.cells g24 (o25 + (y27_1).toNat * 1) [.slice A31 el19.length cp32], RE.rd k_Handle A31 cp32 el19]) ?_ ?_
        ·cases hbS : (decide (0 < (el19.length : Int)))
         ·have hm := cond_f hbS hmS
          refine RL_cons (OpR_off (by exact wn2 rfl rfl rfl rfl) (by rfl) (by rfl) ?_)
          refine RL_cons (OpR_off (by exact wn2 rfl rfl rfl rfl) (by rfl) (by rfl) ?_)
          refine RL_cons (OpR_off (by exact wn2 rfl rfl rfl rfl) (by rfl) (by rfl) ?_)
          refine RL_cons (OpR_off (by exact wn2 rfl rfl rfl rfl) (by rfl) (by rfl) ?_)
          refine RL_cons (OpR_off (by exact wn2 rfl rfl rfl rfl) (by rfl) (by rfl) ?_)
          refine RL_cons (OpR_off (by exact wn2 rfl rfl rfl rfl) (by rfl) (by rfl) ?_)
          refine RL_cons (OpR_off (by exact wn2 rfl rfl rfl rfl) (by rfl) (by rfl) ?_)
          refine RL_cons (OpR_off (by exact wn2 rfl rfl rfl rfl) (by rfl) (by rfl) ?_)
          refine RL_pure (by exact wn1 rfl rfl rfl rfl) (by rfl) (by rfl) (x_pick_f (v := .bool false) (by rfl) (by rfl)) ?_
          refine RL_nil ?_
          exact ⟨⟨congrArg Value.bool (Option.some.inj hm), rfl, rfl, rfl, rfl, rfl, rfl, rfl, trivial⟩, H⟩
         ·have hm := cond_t hbS hmS
          refine RL_pure (by exact wn1 rfl rfl rfl rfl) (by rfl) (by rfl) (x_fieldAddr fo79_0 (by rfl)) ?_
          refine RL_pure (by exact wn1 rfl rfl rfl rfl) (by rfl) (by rfl) (x_fieldAddr fo76_0 (by rfl)) ?_
          refine RL_pure (by exact wn1 rfl rfl rfl rfl) (by rfl) (by rfl) (x_load (j := 0) (v := .slice A1 a0.Arena.Slots.length cp2) sc74 (by rfl) (H.cells (i := 0) (by rfl)) (by rfl)) ?_
          refine RL_pure (by exact wn1 rfl rfl rfl rfl) (by rfl) (by rfl) (x_move (v := .int .i64 y27_1) (by rfl)) ?_
          obtain ⟨el38, h39, h40, he41, hm⟩ := idx_some hm
          obtain ⟨g43, o44, hA42⟩ := (H.rd (i := 0) (by rfl)).addr he41
          refine RL_pure (by exact wn1 rfl rfl rfl rfl) (by rfl) (by rfl) (x_indexAddr sl74 sz96 (by rfl) (by rfl) hA42 h39 h40) ?_
          refine RL_pure (by exact wn1 rfl rfl rfl rfl) (by rfl) (by rfl) (x_fieldAddr fo96_1 (by rfl)) ?_
          refine RL_pure (by exact wn1 rfl rfl rfl rfl) (by rfl) (by rfl) (x_load (j := 1) (v := .bool el38.Live) sc4 (by rfl) (Rd.flatAt (n := 2) (H.rd (i := 0) (by rfl)) hA42 he41) (by rfl)) ?_
          refine RL_pure (by exact wn1 rfl rfl rfl rfl) (by rfl) (by rfl) (x_not (by rfl)) ?_
          refine RL_pure (by exact wn1 rfl rfl rfl rfl) (by rfl) (by rfl) (x_pick_t (v := .bool (!el38.Live)) (by rfl) (by rfl)) ?_
          refine RL_nil ?_
          exact ⟨⟨congrArg Value.bool (Option.some.inj hm), rfl, rfl, rfl, rfl, rfl, rfl, rfl, trivial⟩, H⟩
        ·rintro r' w' ⟨hA, H⟩
         obtain ⟨r45, rfl⟩ := regen _ hA; clear hA
         obtain ⟨w46, rfl⟩ : ∃ W : World, W = w' := ⟨_, rfl⟩
         show RL _ _ _ _ _ _ _
         refine RL_p (x_pick_f (v := .bool b37) (by rfl) (by rfl)) ?_
         refine RL_nil ?_
         exact ⟨⟨congrArg Value.bool (Option.some.inj hm), rfl, rfl, rfl, rfl, rfl, rfl, trivial⟩, H⟩
       ·have hm := cond_t hbS hmS
        refine RL_cons (OpR_off (by exact wn2 rfl rfl rfl rfl) (by rfl) (by rfl) ?_)
        refine RL_cons (OpR_off (by exact wn2 rfl rfl rfl rfl) (by rfl) (by rfl) ?_)
        refine RL_cons (OpR_off (by exact wn2 rfl rfl rfl rfl) (by rfl) (by rfl) ?_)
        refine RL_cons (OpR_off (by exact wn2 rfl rfl rfl rfl) (by rfl) (by rfl) ?_)
        refine RL_cons (OpR_off (by exact wn3 rfl rfl rfl) (by rfl) (by rfl) ?_)
        refine RL_cons (OpR_off (by exact wn3 rfl rfl rfl) (by rfl) (by rfl) ?_)
        refine RL_cons (OpR_off (by exact wn3 rfl rfl rfl) (by rfl) (by rfl) ?_)
        refine RL_cons (OpR_off (by exact wn3 rfl rfl rfl) (by rfl) (by rfl) ?_)
        refine RL_cons (OpR_off (by exact wn3 rfl rfl rfl) (by rfl) (by rfl) ?_)
        refine RL_cons (OpR_off (by exact wn3 rfl rfl rfl) (by rfl) (by rfl) ?_)
        refine RL_cons (OpR_off (by exact wn3 rfl rfl rfl) (by rfl) (by rfl) ?_)
        refine RL_cons (OpR_off (by exact wn3 rfl rfl rfl) (by rfl) (by rfl) ?_)
        refine RL_cons (OpR_off (by exact wn2 rfl rfl rfl rfl) (by rfl) (by rfl) ?_)
        refine RL_p (x_pick_t (v := .bool true) (by rfl) (by rfl)) ?_
        refine RL_nil ?_
        exact ⟨⟨congrArg Value.bool (Option.some.inj hm), rfl, rfl, rfl, rfl, rfl, rfl, trivial⟩, H⟩
      ·rintro r' w' ⟨hA, H⟩
       obtain ⟨r47, rfl⟩ := regen _ hA; clear hA
       obtain ⟨w48, rfl⟩ : ∃ W : World, W = w' := ⟨_, rfl⟩
       show RL _ _ _ _ _ _ _
       refine RL_p (x_move (v := .bool b36) (by rfl)) ?_
       obtain ⟨b49, hmS, hm⟩ := bind_some hm
       refine RL_cut 4 (fun r' w' => Agr [(55, .bool b49), (1, .pointer (some ⟨b9, 0, none⟩)), (25, .slice A5 a0.Kids.length cp6), (26, .int .i64 (a0.Kids.length : Int)), (27, .int .i64 y27_1)] r' ∧ Sep ok w w' [GRB b9 A1 cp2 A5 cp6 a0] [RDS A1 cp2 a0, RDK A5 cp6 a0, RE.cells g24 (o25 + (y27_1).toNat * 1) [.slice A31 el19.length cp32], RE.rd k_Handle A31 cp32 el19]) ?_ ?_
       ·cases hbS : b36
        ·have hm := cond_f hbS hmS
         refine RL_pure (by exact wn1 rfl rfl rfl rfl) (by rfl) (by rfl) (x_move (v := .slice A31 el19.length cp32) (by rfl)) ?_
         refine RL_pure (by exact wn1 rfl rfl rfl rfl) (by rfl) (by rfl) (x_move (v := .func (.func 89) #[] #[.pointer (some ⟨b9, 0, none⟩)]) (by rfl)) ?_
         obtain ⟨v51, hv50, hm⟩ := bind_some hm
         refine RL_cons (O_call (by exact wn1 rfl rfl rfl rfl) (by rfl) (by rfl) (x_callL (by rfl) (args := [.slice A31 el19.length cp32, .func (.func 89) #[] #[.pointer (some ⟨b9, 0, none⟩)]]) (by rfl) (cf91 _ _)) (c91 (fun (_ : Unit) wS => Sep ok w wS [GRB b9 A1 cp2 A5 cp6 a0] [RDS A1 cp2 a0, RDK A5 cp6 a0, RE.cells g24 (o25 + (y27_1).toNat * 1) [.slice A31 el19.length cp32], RE.rd k_Handle A31 cp32 el19]) (fun (_ : Unit) (x : S_Handle) => (m89 K x a0).map fun b => (b, ())) 89 [] [.pointer (some ⟨b9, 0, none⟩)] el19 A31 cp32 (fun _ wS (H : Sep ok w wS [GRB b9 A1 cp2 A5 cp6 a0] [RDS A1 cp2 a0, RDK A5 cp6 a0, RE.cells g24 (o25 + (y27_1).toNat * 1) [.slice A31 el19.length cp32], RE.rd k_Handle A31 cp32 el19]) => (H.rd (i := 3) (by rfl)).any) cf89 (fun _ wS x q (H : Sep ok w wS [GRB b9 A1 cp2 A5 cp6 a0] [RDS A1 cp2 a0, RDK A5 cp6 a0, RE.cells g24 (o25 + (y27_1).toNat * 1) [.slice A31 el19.length cp32], RE.rd k_Handle A31 cp32 el19]) hq => by obtain ⟨b, hb, rfl⟩ := Option.map_eq_some_iff.1 hq; exact (c89 okT K wS x a0 A1 cp2 A5 cp6 b9 (H.rd (i := 0) (by rfl)).any (H.rd (i := 1) (by rfl)).any (H.blkRd (i := 0) (by rfl)) b hb).mono fun e w_ h => ⟨h.1, H.below h.2.base⟩) () w48 H v51 hv50) ?_)
         rintro e w52 ⟨rfl, H⟩
         have H : Sep ok w w52 [GRB b9 A1 cp2 A5 cp6 a0] [RDS A1 cp2 a0, RDK A5 cp6 a0, RE.cells g24 (o25 + (y27_1).toNat * 1) [.slice A31 el19.length cp32], RE.rd k_Handle A31 cp32 el19] := H
         refine ⟨_, rfl, ?_⟩
         show RL _ _ _ _ _ _ _
         refine RL_p (x_pick_f (v := .bool (decide (0 ≤ v51.1))) (by rfl) (by rfl)) ?_
         refine RL_nil ?_
         exact ⟨⟨congrArg Value.bool (Option.some.inj hm), rfl, rfl, rfl, rfl, trivial⟩, H⟩
        ·have hm := cond_t hbS hmS
         refine RL_cons (OpR_off (by exact wn2 rfl rfl rfl rfl) (by rfl) (by rfl) ?_)
         refine RL_cons (OpR_off (by exact wn2 rfl rfl rfl rfl) (by rfl) (by rfl) ?_)
         refine RL_cons (OpR_off (by exact wn2 rfl rfl rfl rfl) (by rfl) (by rfl) ?_)
         refine RL_p (x_pick_t (v := .bool true) (by rfl) (by rfl)) ?_
         refine RL_nil ?_
         exact ⟨⟨congrArg Value.bool (Option.some.inj hm), rfl, rfl, rfl, rfl, trivial⟩, H⟩
       ·rintro r' w' ⟨hA, H⟩
        obtain ⟨r53, rfl⟩ := regen _ hA; clear hA
        obtain ⟨w54, rfl⟩ : ∃ W : World, W = w' := ⟨_, rfl⟩
        show RL _ _ _ _ _ _ _
        refine RL_nil ?_
        refine W_cond (by rfl) (fun hb => ?_) (fun hb => ?_)
        ·have hm := cond_t hb hm
         refine W_seq ?_
         refine W_region ?_
         refine RL_p (x_assign (v := .int .i64 8) (by rfl)) ?_
         refine RL_nil ?_
         refine W_ret ?_
         obtain rfl := Option.some.inj hm
         exact ⟨[.int .i64 8], (.tmp (by rfl) rfl), rfl, H.none_⟩
        ·have hm := cond_f hb hm
         refine W_skip ?_
         refine W_region ?_
         obtain ⟨x55, ex55, qx55, ux55, hm⟩ := ck_some hm
         refine RL_p (x_add (by rfl) (by rfl) ux55) ?_
         refine RL_p (x_move (v := .int .i64 x55) (by rfl)) ?_
         refine RL_nil ?_
         subst hrec1
         exact ⟨k1, Nat.lt_succ_self k1, x55, hm, ⟨rfl, rfl, rfl, rfl, trivial⟩, (H).pick [0, 1]⟩
     ·have hm := cond_f hb hm
      refine W_exit ?_
      refine W_seq ?_
      refine W_region ?_
      refine RL_cons (O_makeMap (by exact wn0 rfl) (by rfl) H (fun w57 b56 (H : Sep ok w w57 [GRB b9 A1 cp2 A5 cp6 a0, .mset b56 ([])] [RDS A1 cp2 a0, RDK A5 cp6 a0]) => ?_))
      refine RL_cons (O_alloc (by exact wn0 rfl) (by rfl) ze144 (by rfl) H (fun w59 b58 (H : Sep ok w w59 [GRB b9 A1 cp2 A5 cp6 a0, .mset b56 ([]), .blk b58 144 [.map none]] [RDS A1 cp2 a0, RDK A5 cp6 a0]) => ?_))
      refine RL_cons (O_store (i := 2) (off := 0) (by exact wn0 rfl) (by rfl) (by rfl) H (by rfl) (vs := [.map (some b56)]) (by rfl) sz144 (by rfl) (by rfl) (by rfl) (fun w60 (H : Sep ok w w60 [GRB b9 A1 cp2 A5 cp6 a0, .mset b56 ([]), .blk b58 144 [.map (some b56)]] [RDS A1 cp2 a0, RDK A5 cp6 a0]) => ?_))
      refine RL_nil ?_
      refine W_seq ?_
      refine W_seq ?_
      refine W_region ?_
      refine RL_p (x_fieldAddr fo79_1 (by rfl)) ?_
      refine RL_p (x_load (j := 1) (v := .slice A5 a0.Kids.length cp6) sc77 (by rfl) (H.cells (i := 0) (by rfl)) (by rfl)) ?_
      refine RL_p (x_len sl77 (by rfl)) ?_
      refine RL_p (x_move (v := .int .i64 0) (by rfl)) ?_
      refine RL_nil ?_
      refine W_block ?_
      refine W_loop (fun k2 r' w' => ∃ (hs_b56_2 : (List (Int × Int))), ∃ (y61_2 : Int), m43_l2 K a0 k2 hs_b56_2 y61_2 = some res ∧ Agr [(1, .pointer (some ⟨b9, 0, none⟩)), (6, .pointer (some ⟨b58, 0, none⟩)), (59, .slice A5 a0.Kids.length cp6), (60, .int .i64 (a0.Kids.length : Int)), (61, .int .i64 y61_2)] r' ∧ Sep ok w w' [GRB b9 A1 cp2 A5 cp6 a0, .mset b56 hs_b56_2, .blk b58 144 [.map (some b56)]] [RDS A1 cp2 a0, RDK A5 cp6 a0]) K ?_ ?_
      ·exact ⟨[], 0, hm, ⟨rfl, rfl, rfl, rfl, rfl, trivial⟩, H⟩
      ·rintro k2 r' w' ⟨hs_b56_2, y61_2, hm, hA, H⟩
       obtain ⟨r61, rfl⟩ := regen _ hA; clear hA
       obtain ⟨w62, rfl⟩ : ∃ W : World, W = w' := ⟨_, rfl⟩
       cases k2 with
       | zero => exact (none_some hm).elim
       | succ k2 =>
        have hm : m43_l2b K a0 (m43_l2 K a0 k2) hs_b56_2 y61_2 = some res := hm
        unfold m43_l2b at hm
        obtain ⟨rec2, hrec2⟩ : ∃ f, m43_l2 K a0 k2 = f := ⟨_, rfl⟩
        rw [hrec2] at hm
        refine W_seq ?_
        refine W_region ?_
        refine RL_p (x_lss (by rfl) (by rfl)) ?_
        refine RL_nil ?_
        refine W_seq ?_
        refine W_cond (by rfl) (fun hb => ?_) (fun hb => ?_)
        ·have hm := cond_t hb hm
         refine W_skip ?_
         refine W_seq ?_
         refine W_block ?_
         refine W_seq ?_
         refine W_region ?_
         refine RL_p (x_move (v := .int .i64 y61_2) (by rfl)) ?_
         obtain ⟨el63, h64, h65, he66, hm⟩ := idx_some hm
         obtain ⟨g68, o69, hA67⟩ := (H.rd (i := 1) (by rfl)).addr he66
         obtain ⟨cs70, hk71, hat72, hg_cs70⟩ := (H.rd (i := 1) (by rfl)).openAt hA67 he66
         obtain ⟨A75, cp76, rfl, hR78⟩ := hk71
         have H : Sep ok w w62 [GRB b9 A1 cp2 A5 cp6 a0, .mset b56 hs_b56_2, .blk b58 144 [.map (some b56)]] [RDS A1 cp2 a0, RDK A5 cp6 a0, RE.cells g68 (o69 + (y61_2).toNat * 1) [.slice A75 el63.length cp76]] := Sep.also H (re := RE.cells g68 (o69 + (y61_2).toNat * 1) [.slice A75 el63.length cp76]) ⟨hg_cs70, hat72⟩
         have H : Sep ok w w62 [GRB b9 A1 cp2 A5 cp6 a0, .mset b56 hs_b56_2, .blk b58 144 [.map (some b56)]] [RDS A1 cp2 a0, RDK A5 cp6 a0, RE.cells g68 (o69 + (y61_2).toNat * 1) [.slice A75 el63.length cp76], RE.rd k_Handle A75 cp76 el63] := Sep.also H (re := RE.rd k_Handle A75 cp76 el63) hR78
         refine RL_p (x_indexAddr sl77 sz87 (by rfl) (by rfl) hA67 h64 h65) ?_
         refine RL_p (x_load (j := 0) (v := .slice A75 el63.length cp76) sc87 (by rfl) (H.cellsR (i := 2) (by rfl)) (by rfl)) ?_
         refine RL_p (x_assign (v := .int .i64 y61_2) (by rfl)) ?_
         refine RL_p (x_assign (v := .slice A75 el63.length cp76) (by rfl)) ?_
         refine RL_nil ?_
         refine W_seq ?_
         refine W_region ?_
         refine RL_p (x_move (v := .int .i64 y61_2) (by rfl)) ?_
         refine RL_p (x_fieldAddr fo79_0 (by rfl)) ?_
         refine RL_p (x_fieldAddr fo76_0 (by rfl)) ?_
         refine RL_p (x_load (j := 0) (v := .slice A1 a0.Arena.Slots.length cp2) sc74 (by rfl) (H.cells (i := 0) (by rfl)) (by rfl)) ?_
         refine RL_p (x_move (v := .int .i64 y61_2) (by rfl)) ?_
         obtain ⟨el80, h81, h82, he83, hm⟩ := idx_some hm
         obtain ⟨g85, o86, hA84⟩ := (H.rd (i := 0) (by rfl)).addr he83
         refine RL_p (x_indexAddr sl74 sz96 (by rfl) (by rfl) hA84 h81 h82) ?_
         refine RL_p (x_fieldAddr fo96_0 (by rfl)) ?_
         refine RL_p (x_load (j := 0) (v := .int .i64 el80.Gen) sc3 (by rfl) (Rd.flatAt (n := 2) (H.rd (i := 0) (by rfl)) hA84 he83) (by rfl)) ?_
         refine RL_p (x_build (vs := [(0, .int .i64 y61_2), (1, .int .i64 el80.Gen)]) (cs := [.int .i64 y61_2, .int .i64 el80.Gen]) (by rfl) (by kernel_rfl)) ?_
         refine RL_cons (O_alloc (by exact wn0 rfl) (by rfl) ze81 (by rfl) H (fun w88 b87 (H : Sep ok w w88 [GRB b9 A1 cp2 A5 cp6 a0, .mset b56 hs_b56_2, .blk b58 144 [.map (some b56)], .blk b87 81 [.int .i64 0, .int .i64 0]] [RDS A1 cp2 a0, RDK A5 cp6 a0, RE.cells g68 (o69 + (y61_2).toNat * 1) [.slice A75 el63.length cp76], RE.rd k_Handle A75 cp76 el63]) => ?_))
         refine RL_cons (O_store (i := 3) (off := 0) (by exact wn0 rfl) (by rfl) (by rfl) H (by rfl) (vs := [.int .i64 y61_2, .int .i64 el80.Gen]) (by rfl) sz81 (by rfl) (by rfl) (by rfl) (fun w89 (H : Sep ok w w89 [GRB b9 A1 cp2 A5 cp6 a0, .mset b56 hs_b56_2, .blk b58 144 [.map (some b56)], .blk b87 81 [.int .i64 y61_2, .int .i64 el80.Gen]] [RDS A1 cp2 a0, RDK A5 cp6 a0, RE.cells g68 (o69 + (y61_2).toNat * 1) [.slice A75 el63.length cp76], RE.rd k_Handle A75 cp76 el63]) => ?_))
         refine RL_nil ?_
         refine W_seq ?_
         refine W_region ?_
         refine RL_p (x_load (j := 0) (v := .map (some b56)) sc144 (by rfl) (H.cells (i := 2) (by rfl)) (by rfl)) ?_
         refine RL_cons (O_clearSet (i := 1) (by exact wn0 rfl) mp144 (by rfl) H (by rfl) (fun w90 (H : Sep ok w w90 [GRB b9 A1 cp2 A5 cp6 a0, .mset b56 ([]), .blk b58 144 [.map (some b56)], .blk b87 81 [.int .i64 y61_2, .int .i64 el80.Gen]] [RDS A1 cp2 a0, RDK A5 cp6 a0, RE.cells g68 (o69 + (y61_2).toNat * 1) [.slice A75 el63.length cp76], RE.rd k_Handle A75 cp76 el63]) => ?_))
         refine RL_nil ?_
         refine W_seq ?_
         refine W_region ?_
         refine RL_p (x_move (v := .slice A75 el63.length cp76) (by rfl)) ?_
         refine RL_p (x_makeFunc (vs := [.pointer (some ⟨b9, 0, none⟩), .pointer (some ⟨b58, 0, none⟩), .pointer (some ⟨b87, 0, none⟩)]) (by rfl)) ?_
         obtain ⟨v92, hv91, hm⟩ := bind_some hm
         refine RL_cons (O_call (by exact wn0 rfl) (by rfl) (by rfl) (x_callL (by rfl) (args := [.slice A75 el63.length cp76, .func (.func 92) #[] #[.pointer (some ⟨b9, 0, none⟩), .pointer (some ⟨b58, 0, none⟩), .pointer (some ⟨b87, 0, none⟩)]]) (by rfl) (cf91 _ _)) (c91 (fun st wS => Sep ok w wS [GRB b9 A1 cp2 A5 cp6 a0, .mset b56 st, .blk b58 144 [.map (some b56)], .blk b87 81 [.int .i64 y61_2, .int .i64 el80.Gen]] [RDS A1 cp2 a0, RDK A5 cp6 a0, RE.cells g68 (o69 + (y61_2).toNat * 1) [.slice A75 el63.length cp76], RE.rd k_Handle A75 cp76 el63]) (m92 K a0 (⟨y61_2, el80.Gen⟩ : S_Handle)) 92 [] [.pointer (some ⟨b9, 0, none⟩), .pointer (some ⟨b58, 0, none⟩), .pointer (some ⟨b87, 0, none⟩)] el63 A75 cp76 (fun st wS (H : Sep ok w wS [GRB b9 A1 cp2 A5 cp6 a0, .mset b56 st, .blk b58 144 [.map (some b56)], .blk b87 81 [.int .i64 y61_2, .int .i64 el80.Gen]] [RDS A1 cp2 a0, RDK A5 cp6 a0, RE.cells g68 (o69 + (y61_2).toNat * 1) [.slice A75 el63.length cp76], RE.rd k_Handle A75 cp76 el63]) => (H.rd (i := 3) (by rfl)).any) cf92 (fun st wS x q (H : Sep ok w wS [GRB b9 A1 cp2 A5 cp6 a0, .mset b56 st, .blk b58 144 [.map (some b56)], .blk b87 81 [.int .i64 y61_2, .int .i64 el80.Gen]] [RDS A1 cp2 a0, RDK A5 cp6 a0, RE.cells g68 (o69 + (y61_2).toNat * 1) [.slice A75 el63.length cp76], RE.rd k_Handle A75 cp76 el63]) hq => by have H2 := H.lend (i := 1) (by rfl); have H2 := H.lendRd (i := 1) H2 (by rfl) (H.rd (i := 1) (by rfl)); have H2 := H.lendBlk (i := 1) (j := 0) H2 (by rfl) (by rfl) (by decide); have H2 := H.lendBlk (i := 1) (j := 2) H2 (by rfl) (by rfl) (by decide); have H2 := H.lendBlk (i := 1) (j := 3) H2 (by rfl) (by rfl) (by decide); exact (c92 _ K wS wS b56 a0 (⟨y61_2, el80.Gen⟩ : S_Handle) b9 b58 b87 A1 cp2 A5 cp6 st x H2 q hq).mono fun e w_ h => ⟨h.1, H.back (i := 1) (by rfl) h.2⟩) ([]) w90 H v92 hv91) ?_)
         rintro e w93 ⟨rfl, H⟩
         have H : Sep ok w w93 [GRB b9 A1 cp2 A5 cp6 a0, .mset b56 v92.2, .blk b58 144 [.map (some b56)], .blk b87 81 [.int .i64 y61_2, .int .i64 el80.Gen]] [RDS A1 cp2 a0, RDK A5 cp6 a0, RE.cells g68 (o69 + (y61_2).toNat * 1) [.slice A75 el63.length cp76], RE.rd k_Handle A75 cp76 el63] := H
         refine ⟨_, rfl, ?_⟩
         show RL _ _ _ _ _ _ _
         refine RL_nil ?_
         refine W_cond (by rfl) (fun hb => ?_) (fun hb => ?_)
         ·have hm := cond_t hb hm
          refine W_seq ?_
          refine W_region ?_
          refine RL_p (x_assign (v := .int .i64 8) (by rfl)) ?_
          refine RL_nil ?_
          refine W_ret ?_
          obtain rfl := Option.some.inj hm
          exact ⟨[.int .i64 8], (.tmp (by rfl) rfl), rfl, H.none_⟩
         ·have hm := cond_f hb hm
          refine W_skip ?_
          refine W_region ?_
          obtain ⟨x94, ex94, qx94, ux94, hm⟩ := ck_some hm
          refine RL_p (x_add (by rfl) (by rfl) ux94) ?_
          refine RL_p (x_move (v := .int .i64 x94) (by rfl)) ?_
          refine RL_nil ?_
          subst hrec2
          exact ⟨k2, Nat.lt_succ_self k2, v92.2, x94, hm, ⟨rfl, rfl, rfl, rfl, rfl, trivial⟩, ((H).takeL 3).pick [0, 1]⟩
        ·have hm := cond_f hb hm
         refine W_exit ?_
         refine W_seq ?_
         refine W_region ?_
         refine RL_p (x_assign (v := .int .i64 0) (by rfl)) ?_
         refine RL_nil ?_
         refine W_ret ?_
         obtain rfl := Option.some.inj hm
         exact ⟨[.int .i64 0], (.tmp (by rfl) rfl), rfl, H.none_⟩
end Go.Proofs.YtobkigllalbkiaaV.M

/- A plain Lean function that answers as the Go function does (none: not told), and the proof that a call answers so. Written by program. -/
set_option linter.unusedVariables false
namespace Go.Proofs.YtobkigllalbkiaaV.M
open Go.RowKit Go.Proofs.YtobkigllalbkiaaV
def m79_l1b (K : Nat) (a0 : S_Graph) (a1 : (List S_Handle)) (rec1 : Int → Option (Int)) (y15_1 : Int) : Option (Int) :=
 (bif (decide (y15_1 < (a1.length : Int))) then (idx a1 y15_1 fun el20 => ((m90 K a0.Arena el20).bind fun v31 => (bif (!v31) then some 50 else (ck (y15_1 + 1) fun x33 => (rec1 x33))))) else some 0)
def m79_l1 (K : Nat) (a0 : S_Graph) (a1 : (List S_Handle)) : Nat → Int → Option (Int)
 | 0 => fun _ => none
 | k + 1 => m79_l1b K a0 a1 (m79_l1 K a0 a1 k)
/-- diorama/nodes.asked -/
def m79 (K : Nat) (a0 : S_Graph) (a1 : (List S_Handle)) : Option (Int) :=
 ((m43 K a0).bind fun v16 => (bif (v16 != 0) then some v16 else m79_l1 K a0 a1 K 0))
set_option maxRecDepth 100000 in
set_option maxHeartbeats 4000000 in
theorem c79 (ok : Okp) (K : Nat) (w : World) (a0 : S_Graph) (A1 : Option Addr) (cp2 : Nat) (A5 : Option Addr) (cp6 : Nat) (a1 : (List S_Handle)) (A9 : Option Addr) (cp10 : Nat) (hR3 : Rd k_Slot w ok A1 cp2 a0.Arena.Slots) (hR7 : Rd (Kd.slice k_Handle) w ok A5 cp6 a0.Kids) (hR11 : Rd k_Handle w ok A9 cp10 a1) (res : Int) (hm : m79 K a0 a1 = some res) :
  Calls Try.prog 79 #[.agg #[.slice A1 a0.Arena.Slots.length cp2, .slice A5 a0.Kids.length cp6], .slice A9 a1.length cp10] w (fun e w' => e = .returned (tup [.int .i64 res]) ∧ Sep ok w w' [] []) := by
 refine calls_W (args := [.agg #[.slice A1 a0.Arena.Slots.length cp2, .slice A5 a0.Kids.length cp6], .slice A9 a1.length cp10]) Try.func79 rfl Try.ntmps79 Try.results79 rfl fun r hr => ?_
 obtain ⟨r1, rfl⟩ := regen (r := r) [(0, .agg #[.slice A1 a0.Arena.Slots.length cp2, .slice A5 a0.Kids.length cp6]), (1, .slice A9 a1.length cp10)] ⟨hr 0 _ rfl, hr 1 _ rfl, trivial⟩
 have H : Sep ok w w [] [RDS A1 cp2 a0, RDK A5 cp6 a0, RE.rd k_Handle A9 cp10 a1] := Sep.arg (Sep.arg (Sep.arg (Sep.start ok w) (re := RE.rd k_Slot A1 cp2 a0.Arena.Slots) rfl rfl hR3) (re := RE.rd (Kd.slice k_Handle) A5 cp6 a0.Kids) rfl rfl hR7) (re := RE.rd k_Handle A9 cp10 a1) rfl rfl hR11
 unfold m79 at hm
 refine W_seq ?_
 refine W_region ?_
 refine RL_cons (O_box (by exact wn0 rfl) (by rfl) (by rfl) (by rfl) H (fun w14 b13 (H : Sep ok w w14 [GRB b13 A1 cp2 A5 cp6 a0] [RDS A1 cp2 a0, RDK A5 cp6 a0, RE.rd k_Handle A9 cp10 a1]) => ?_))
 refine RL_p (x_assign (v := .int .i64 0) (by rfl)) ?_
 refine RL_nil ?_
 refine W_seq ?_
 refine W_seq ?_
 refine W_region ?_
 refine RL_p (x_loadA (j := 0) (vs := [.slice A1 a0.Arena.Slots.length cp2, .slice A5 a0.Kids.length cp6]) ag79 (by rfl) (H.cells (i := 0) (by rfl)) (by rfl) (by rfl)) ?_
 obtain ⟨v16, hv15, hm⟩ := bind_some hm
 refine RL_cons (O_call (by exact wn0 rfl) (by rfl) (by rfl) (x_callL (by rfl) (args := [.agg #[.slice A1 a0.Arena.Slots.length cp2, .slice A5 a0.Kids.length cp6]]) (by rfl) (cf43 _ _)) (c43 okT K w14 a0 A1 cp2 A5 cp6 (H.rd (i := 0) (by rfl)).any (H.rd (i := 1) (by rfl)).any v16 hv15) ?_)
 rintro e w17 ⟨rfl, H2⟩
 have H : Sep ok w w17 [GRB b13 A1 cp2 A5 cp6 a0] [RDS A1 cp2 a0, RDK A5 cp6 a0, RE.rd k_Handle A9 cp10 a1] := H.below H2.base
 clear H2
 refine ⟨_, rfl, ?_⟩
 show RL _ _ _ _ _ _ _
 refine RL_p (x_assign (v := .int .i64 v16) (by rfl)) ?_
 refine RL_nil ?_
 refine W_seq ?_
 refine W_region ?_
 refine RL_p (x_move (v := .int .i64 v16) (by rfl)) ?_
 refine RL_p (x_neq (by rfl) (by rfl)) ?_
 refine RL_nil ?_
 refine W_cond (by rfl) (fun hb => ?_) (fun hb => ?_)
 ·have hm := cond_t hb hm
  refine W_seq ?_
  refine W_region ?_
  refine RL_p (x_move (v := .int .i64 v16) (by rfl)) ?_
  refine RL_p (x_assign (v := .int .i64 v16) (by rfl)) ?_
  refine RL_nil ?_
  refine W_ret ?_
  obtain rfl := Option.some.inj hm
  exact ⟨[.int .i64 v16], (.tmp (by rfl) rfl), rfl, H.none_⟩
 ·have hm := cond_f hb hm
  refine W_skip ?_
  refine W_seq ?_
  refine W_seq ?_
  refine W_region ?_
  refine RL_p (x_move (v := .slice A9 a1.length cp10) (by rfl)) ?_
  refine RL_p (x_len sl87 (by rfl)) ?_
  refine RL_p (x_move (v := .int .i64 0) (by rfl)) ?_
  refine RL_nil ?_
  refine W_block ?_
  refine W_loop (fun k1 r' w' => ∃ (y15_1 : Int), m79_l1 K a0 a1 k1 y15_1 = some res ∧ Agr [(2, .pointer (some ⟨b13, 0, none⟩)), (13, .slice A9 a1.length cp10), (14, .int .i64 (a1.length : Int)), (15, .int .i64 y15_1)] r' ∧ Sep ok w w' [GRB b13 A1 cp2 A5 cp6 a0] [RDS A1 cp2 a0, RDK A5 cp6 a0, RE.rd k_Handle A9 cp10 a1]) K ?_ ?_
  ·exact ⟨0, hm, ⟨rfl, rfl, rfl, rfl, trivial⟩, H⟩
  ·rintro k1 r' w' ⟨y15_1, hm, hA, H⟩
   obtain ⟨r18, rfl⟩ := regen _ hA; clear hA
   obtain ⟨w19, rfl⟩ : ∃ W : World, W = w' := ⟨_, rfl⟩
   cases k1 with
   | zero => exact (none_some hm).elim
   | succ k1 =>
    have hm : m79_l1b K a0 a1 (m79_l1 K a0 a1 k1) y15_1 = some res := hm
    unfold m79_l1b at hm
    obtain ⟨rec1, hrec1⟩ : ∃ f, m79_l1 K a0 a1 k1 = f := ⟨_, rfl⟩
    rw [hrec1] at hm
    refine W_seq ?_
    refine W_region ?_
    refine RL_p (x_lss (by rfl) (by rfl)) ?_
    refine RL_nil ?_
    refine W_seq ?_
    refine W_cond (by rfl) (fun hb => ?_) (fun hb => ?_)
    ·have hm := cond_t hb hm
     refine W_skip ?_
     refine W_seq ?_
     refine W_block ?_
     refine W_seq ?_
     refine W_region ?_
     obtain ⟨el20, h21, h22, he23, hm⟩ := idx_some hm
     obtain ⟨g25, o26, hA24⟩ := (H.rd (i := 2) (by rfl)).addr he23
     refine RL_p (x_indexAddr sl87 sz81 (by rfl) (by rfl) hA24 h21 h22) ?_
     refine RL_p (x_loadA (j := 0) (vs := [.int .i64 el20.Slot, .int .i64 el20.Gen]) ag81 (by rfl) (Rd.flatAt (n := 2) (H.rd (i := 2) (by rfl)) hA24 he23) (by rfl) (by rfl)) ?_
     refine RL_cons (O_alloc (by exact wn0 rfl) (by rfl) ze81 (by rfl) H (fun w28 b27 (H : Sep ok w w28 [GRB b13 A1 cp2 A5 cp6 a0, .blk b27 81 [.int .i64 0, .int .i64 0]] [RDS A1 cp2 a0, RDK A5 cp6 a0, RE.rd k_Handle A9 cp10 a1]) => ?_))
     refine RL_cons (O_store (i := 1) (off := 0) (by exact wn0 rfl) (by rfl) (by rfl) H (by rfl) (vs := [.int .i64 el20.Slot, .int .i64 el20.Gen]) (by rfl) sz81 (by rfl) (by rfl) (by rfl) (fun w29 (H : Sep ok w w29 [GRB b13 A1 cp2 A5 cp6 a0, HNB b27 el20] [RDS A1 cp2 a0, RDK A5 cp6 a0, RE.rd k_Handle A9 cp10 a1]) => ?_))
     refine RL_nil ?_
     refine W_seq ?_
     refine W_region ?_
     refine RL_p (x_fieldAddr fo79_0 (by rfl)) ?_
     refine RL_p (x_loadA (j := 0) (vs := [.slice A1 a0.Arena.Slots.length cp2]) ag76 (by rfl) (H.cells (i := 0) (by rfl)) (by rfl) (by rfl)) ?_
     refine RL_p (x_loadA (j := 0) (vs := [.int .i64 el20.Slot, .int .i64 el20.Gen]) ag81 (by rfl) (H.cells (i := 1) (by rfl)) (by rfl) (by rfl)) ?_
     obtain ⟨v31, hv30, hm⟩ := bind_some hm
     refine RL_cons (O_call (by exact wn0 rfl) (by rfl) (by rfl) (x_callL (by rfl) (args := [.agg #[.slice A1 a0.Arena.Slots.length cp2], .agg #[.int .i64 el20.Slot, .int .i64 el20.Gen]]) (by rfl) (cf90 _ _)) (c90 okT K w29 a0.Arena A1 cp2 el20 (H.rd (i := 0) (by rfl)).any v31 hv30) ?_)
     rintro e w32 ⟨rfl, H2⟩
     have H : Sep ok w w32 [GRB b13 A1 cp2 A5 cp6 a0, HNB b27 el20] [RDS A1 cp2 a0, RDK A5 cp6 a0, RE.rd k_Handle A9 cp10 a1] := H.below H2.base
     clear H2
     refine ⟨_, rfl, ?_⟩
     show RL _ _ _ _ _ _ _
     refine RL_p (x_not (by rfl)) ?_
     refine RL_nil ?_
     refine W_cond (by rfl) (fun hb => ?_) (fun hb => ?_)
     ·have hm := cond_t hb hm
      refine W_seq ?_
      refine W_region ?_
      refine RL_p (x_assign (v := .int .i64 50) (by rfl)) ?_
      refine RL_nil ?_
      refine W_ret ?_
      obtain rfl := Option.some.inj hm
      exact ⟨[.int .i64 50], (.tmp (by rfl) rfl), rfl, H.none_⟩
     ·have hm := cond_f hb hm
      refine W_skip ?_
      refine W_region ?_
      obtain ⟨x33, ex33, qx33, ux33, hm⟩ := ck_some hm
      refine RL_p (x_add (by rfl) (by rfl) ux33) ?_
      refine RL_p (x_move (v := .int .i64 x33) (by rfl)) ?_
      refine RL_nil ?_
      subst hrec1
      exact ⟨k1, Nat.lt_succ_self k1, x33, hm, ⟨rfl, rfl, rfl, rfl, trivial⟩, (H).takeL 1⟩
    ·have hm := cond_f hb hm
     refine W_exit ?_
     refine W_seq ?_
     refine W_region ?_
     refine RL_p (x_assign (v := .int .i64 0) (by rfl)) ?_
     refine RL_nil ?_
     refine W_ret ?_
     obtain rfl := Option.some.inj hm
     exact ⟨[.int .i64 0], (.tmp (by rfl) rfl), rfl, H.none_⟩
end Go.Proofs.YtobkigllalbkiaaV.M

/- A plain Lean function that answers as the Go function does (none: not told), and the proof that a call answers so. Written by program. -/
set_option linter.unusedVariables false
namespace Go.Proofs.YtobkigllalbkiaaV.M
open Go.RowKit Go.Proofs.YtobkigllalbkiaaV
/-- diorama/nodes.reaches -/
def m80 (K : Nat) (g : S_Graph) (frm to : S_Handle) : Option Bool := (m93 K g [] frm to).map (·.1)
set_option maxRecDepth 100000 in
set_option maxHeartbeats 4000000 in
theorem c80 (ok : Okp) (K : Nat) (w : World) (a0 : S_Graph) (A1 : Option Addr) (cp2 : Nat) (A5 : Option Addr) (cp6 : Nat) (a1 a2 : S_Handle) (hR3 : Rd k_Slot w ok A1 cp2 a0.Arena.Slots) (hR7 : Rd (Kd.slice k_Handle) w ok A5 cp6 a0.Kids) (res : Bool) (hm : m80 K a0 a1 a2 = some res) :
  Calls Try.prog 80 #[.agg #[.slice A1 a0.Arena.Slots.length cp2, .slice A5 a0.Kids.length cp6], .agg #[.int .i64 a1.Slot, .int .i64 a1.Gen], .agg #[.int .i64 a2.Slot, .int .i64 a2.Gen]] w (fun e w' => e = .returned (tup [.bool res]) ∧ Sep ok w w' [] []) := by
 refine calls_W (args := [.agg #[.slice A1 a0.Arena.Slots.length cp2, .slice A5 a0.Kids.length cp6], .agg #[.int .i64 a1.Slot, .int .i64 a1.Gen], .agg #[.int .i64 a2.Slot, .int .i64 a2.Gen]]) Try.func80 rfl Try.ntmps80 Try.results80 rfl fun r hr => ?_
 obtain ⟨r1, rfl⟩ := regen (r := r) [(0, .agg #[.slice A1 a0.Arena.Slots.length cp2, .slice A5 a0.Kids.length cp6]), (1, .agg #[.int .i64 a1.Slot, .int .i64 a1.Gen]), (2, .agg #[.int .i64 a2.Slot, .int .i64 a2.Gen])] ⟨hr 0 _ rfl, hr 1 _ rfl, hr 2 _ rfl, trivial⟩
 unfold m80 at hm
 obtain ⟨q, hq, rfl⟩ := Option.map_eq_some_iff.1 hm
 have H : Sep ok w w [] [RE.rd (Kd.slice k_Handle) A5 cp6 a0.Kids] := Sep.arg (Sep.start ok w) (re := RE.rd (Kd.slice k_Handle) A5 cp6 a0.Kids) rfl rfl hR7
 refine W_seq ?_
 refine W_region ?_
 refine RL_cons (O_box (by exact wn0 rfl) (by rfl) (by rfl) (by rfl) H (fun w1 b3 (H : Sep ok w w1 [.blk b3 79 [.slice A1 a0.Arena.Slots.length cp2, .slice A5 a0.Kids.length cp6]] [RE.rd (Kd.slice k_Handle) A5 cp6 a0.Kids]) => ?_))
 refine RL_cons (O_box (by exact wn0 rfl) (by rfl) (by rfl) (by rfl) H (fun w2 b4 (H : Sep ok w w2 [.blk b3 79 [.slice A1 a0.Arena.Slots.length cp2, .slice A5 a0.Kids.length cp6], .blk b4 81 [.int .i64 a1.Slot, .int .i64 a1.Gen]] [RE.rd (Kd.slice k_Handle) A5 cp6 a0.Kids]) => ?_))
 refine RL_cons (O_box (by exact wn0 rfl) (by rfl) (by rfl) (by rfl) H (fun w3 b5 (H : Sep ok w w3 [.blk b3 79 [.slice A1 a0.Arena.Slots.length cp2, .slice A5 a0.Kids.length cp6], .blk b4 81 [.int .i64 a1.Slot, .int .i64 a1.Gen], .blk b5 81 [.int .i64 a2.Slot, .int .i64 a2.Gen]] [RE.rd (Kd.slice k_Handle) A5 cp6 a0.Kids]) => ?_))
 refine RL_pure (by exact wn0 rfl) (by rfl) (by rfl) (x_assign (v := .bool false) (by rfl)) ?_
 refine RL_nil ?_
 refine W_seq ?_
 refine W_region ?_
 refine RL_pure (by exact wn0 rfl) (by rfl) (by rfl) (x_loadA (j := 0) (vs := [.slice A1 a0.Arena.Slots.length cp2, .slice A5 a0.Kids.length cp6]) ag79 (by rfl) (H.cells (i := 0) (by rfl)) (by rfl) (by rfl)) ?_
 refine RL_cons (O_makeMap (by exact wn0 rfl) (by rfl) H (fun w4 b (H : Sep ok w w4 [.blk b3 79 [.slice A1 a0.Arena.Slots.length cp2, .slice A5 a0.Kids.length cp6], .blk b4 81 [.int .i64 a1.Slot, .int .i64 a1.Gen], .blk b5 81 [.int .i64 a2.Slot, .int .i64 a2.Gen], .mset b []] [RE.rd (Kd.slice k_Handle) A5 cp6 a0.Kids]) => ?_))
 refine RL_pure (by exact wn0 rfl) (by rfl) (by rfl) (x_loadA (j := 0) (vs := [.int .i64 a1.Slot, .int .i64 a1.Gen]) ag81 (by rfl) (H.cells (i := 1) (by rfl)) (by rfl) (by rfl)) ?_
 refine RL_pure (by exact wn0 rfl) (by rfl) (by rfl) (x_loadA (j := 0) (vs := [.int .i64 a2.Slot, .int .i64 a2.Gen]) ag81 (by rfl) (H.cells (i := 2) (by rfl)) (by rfl) (by rfl)) ?_
 have H2 := H.lend (i := 3) (by rfl)
 have H2 := H.lendRd (i := 3) H2 (by rfl) (H.rd (i := 0) (by rfl))
 refine RL_cons (O_call (by exact wn0 rfl) (by rfl) (by rfl) (x_callL (by rfl) (args := [.agg #[.slice A1 a0.Arena.Slots.length cp2, .slice A5 a0.Kids.length cp6], .map (some b), .agg #[.int .i64 a1.Slot, .int .i64 a1.Gen], .agg #[.int .i64 a2.Slot, .int .i64 a2.Gen]]) (by rfl) (cf93 _ _)) (c93 _ K w4 w4 b [] a0 A1 cp2 A5 cp6 a1 a2 H2 q hq) ?_)
 rintro e w7 ⟨rfl, H3⟩
 have H := H.back (i := 3) (by rfl) H3
 refine ⟨_, rfl, ?_⟩
 show RL _ _ _ _ _ _ _
 refine RL_pure (by exact wn0 rfl) (by rfl) (by rfl) (x_assign (v := .bool q.1) (by rfl)) ?_
 refine RL_nil ?_
 refine W_ret ?_
 exact ⟨[.bool q.1], (.tmp (by rfl) rfl), rfl, H.none_⟩
end Go.Proofs.YtobkigllalbkiaaV.M

/- A plain Lean function that answers as the Go function does (none: not told), and the proof that a call answers so. Written by program. -/
set_option linter.unusedVariables false
namespace Go.Proofs.YtobkigllalbkiaaV.M
open Go.RowKit Go.Proofs.YtobkigllalbkiaaV
/-- diorama/nodes.Reaches -/
def m46 (K : Nat) (a0 : S_Graph) (a1 : S_Handle) (a2 : S_Handle) : Option (Bool × Int) :=
 ((m79 K a0 ([a1, a2])).bind fun v20 => (bif (v20 != 0) then some (false, v20) else ((m80 K a0 a1 a2).bind fun v23 => some (v23, 0))))
set_option maxRecDepth 100000 in
set_option maxHeartbeats 4000000 in
theorem c46 (ok : Okp) (K : Nat) (w : World) (a0 : S_Graph) (A1 : Option Addr) (cp2 : Nat) (A5 : Option Addr) (cp6 : Nat) (a1 : S_Handle) (a2 : S_Handle) (hR3 : Rd k_Slot w ok A1 cp2 a0.Arena.Slots) (hR7 : Rd (Kd.slice k_Handle) w ok A5 cp6 a0.Kids) (res : Bool × Int) (hm : m46 K a0 a1 a2 = some res) :
  Calls Try.prog 46 #[.agg #[.slice A1 a0.Arena.Slots.length cp2, .slice A5 a0.Kids.length cp6], .agg #[.int .i64 a1.Slot, .int .i64 a1.Gen], .agg #[.int .i64 a2.Slot, .int .i64 a2.Gen]] w (fun e w' => e = .returned (tup [.bool res.1, .int .i64 res.2]) ∧ Sep ok w w' [] []) := by
 refine calls_W (args := [.agg #[.slice A1 a0.Arena.Slots.length cp2, .slice A5 a0.Kids.length cp6], .agg #[.int .i64 a1.Slot, .int .i64 a1.Gen], .agg #[.int .i64 a2.Slot, .int .i64 a2.Gen]]) Try.func46 rfl Try.ntmps46 Try.results46 rfl fun r hr => ?_
 obtain ⟨r1, rfl⟩ := regen (r := r) [(0, .agg #[.slice A1 a0.Arena.Slots.length cp2, .slice A5 a0.Kids.length cp6]), (1, .agg #[.int .i64 a1.Slot, .int .i64 a1.Gen]), (2, .agg #[.int .i64 a2.Slot, .int .i64 a2.Gen])] ⟨hr 0 _ rfl, hr 1 _ rfl, hr 2 _ rfl, trivial⟩
 have H : Sep ok w w [] [RDS A1 cp2 a0, RDK A5 cp6 a0] := Sep.arg (Sep.arg (Sep.start ok w) (re := RE.rd k_Slot A1 cp2 a0.Arena.Slots) rfl rfl hR3) (re := RE.rd (Kd.slice k_Handle) A5 cp6 a0.Kids) rfl rfl hR7
 unfold m46 at hm
 refine W_seq ?_
 refine W_region ?_
 refine RL_cons (O_box (by exact wn0 rfl) (by rfl) (by rfl) (by rfl) H (fun w10 b9 (H : Sep ok w w10 [GRB b9 A1 cp2 A5 cp6 a0] [RDS A1 cp2 a0, RDK A5 cp6 a0]) => ?_))
 refine RL_cons (O_box (by exact wn0 rfl) (by rfl) (by rfl) (by rfl) H (fun w12 b11 (H : Sep ok w w12 [GRB b9 A1 cp2 A5 cp6 a0, HNB b11 a1] [RDS A1 cp2 a0, RDK A5 cp6 a0]) => ?_))
 refine RL_cons (O_box (by exact wn0 rfl) (by rfl) (by rfl) (by rfl) H (fun w14 b13 (H : Sep ok w w14 [GRB b9 A1 cp2 A5 cp6 a0, HNB b11 a1, HNB b13 a2] [RDS A1 cp2 a0, RDK A5 cp6 a0]) => ?_))
 refine RL_p (x_assign (v := .bool false) (by rfl)) ?_
 refine RL_p (x_assign (v := .int .i64 0) (by rfl)) ?_
 refine RL_nil ?_
 refine W_seq ?_
 refine W_seq ?_
 refine W_region ?_
 refine RL_p (x_loadA (j := 0) (vs := [.slice A1 a0.Arena.Slots.length cp2, .slice A5 a0.Kids.length cp6]) ag79 (by rfl) (H.cells (i := 0) (by rfl)) (by rfl) (by rfl)) ?_
 refine RL_p (x_loadA (j := 0) (vs := [.int .i64 a1.Slot, .int .i64 a1.Gen]) ag81 (by rfl) (H.cells (i := 1) (by rfl)) (by rfl) (by rfl)) ?_
 refine RL_p (x_loadA (j := 0) (vs := [.int .i64 a2.Slot, .int .i64 a2.Gen]) ag81 (by rfl) (H.cells (i := 2) (by rfl)) (by rfl) (by rfl)) ?_
 refine RL_cons (O_buildSlice (vs := [(0, .agg #[.int .i64 a1.Slot, .int .i64 a1.Gen]), (1, .agg #[.int .i64 a2.Slot, .int .i64 a2.Gen])]) (cs := [.int .i64 a1.Slot, .int .i64 a1.Gen, .int .i64 a2.Slot, .int .i64 a2.Gen]) (by exact wn0 rfl) (by rfl) sl87 sz81 ze81 (by rfl) (by rfl) (by rfl) (by kernel_rfl) H (fun w16 b15 (H : Sep ok w w16 [GRB b9 A1 cp2 A5 cp6 a0, HNB b11 a1, HNB b13 a2, .blk b15 81 [.int .i64 a1.Slot, .int .i64 a1.Gen, .int .i64 a2.Slot, .int .i64 a2.Gen]] [RDS A1 cp2 a0, RDK A5 cp6 a0]) => ?_))
 have H : Sep ok w w16 [GRB b9 A1 cp2 A5 cp6 a0, HNB b11 a1, HNB b13 a2, .row (.slice (some ⟨b15, 0, none⟩) ([a1, a2]).length 2) 81 k_Handle.sz ([a1, a2]).length [.int .i64 a1.Slot, .int .i64 a1.Gen, .int .i64 a2.Slot, .int .i64 a2.Gen]] [RDS A1 cp2 a0, RDK A5 cp6 a0, RE.chunks k_Handle [.int .i64 a1.Slot, .int .i64 a1.Gen, .int .i64 a2.Slot, .int .i64 a2.Gen] ([a1, a2])] := H.rowOf (i := 3) (D := k_Handle) (xs := [a1, a2]) (by rfl) (by exact ⟨rfl, rfl, rfl⟩) (by rfl)
 obtain ⟨v20, hv19, hm⟩ := bind_some hm
 refine RL_cons (O_call (by exact wn0 rfl) (by rfl) (by rfl) (x_callL (by rfl) (args := [.agg #[.slice A1 a0.Arena.Slots.length cp2, .slice A5 a0.Kids.length cp6], .slice (some ⟨b15, 0, none⟩) ([a1, a2]).length 2]) (by rfl) (cf79 _ _)) (c79 okT K w16 a0 A1 cp2 A5 cp6 ([a1, a2]) (some ⟨b15, 0, none⟩) 2 (H.rd (i := 0) (by rfl)).any (H.rd (i := 1) (by rfl)).any (H.rowRd (i := 3) (j := 2) (by rfl) (by rfl)) v20 hv19) ?_)
 rintro e w21 ⟨rfl, H2⟩
 have H : Sep ok w w21 [GRB b9 A1 cp2 A5 cp6 a0, HNB b11 a1, HNB b13 a2, .row (.slice (some ⟨b15, 0, none⟩) ([a1, a2]).length 2) 81 k_Handle.sz ([a1, a2]).length [.int .i64 a1.Slot, .int .i64 a1.Gen, .int .i64 a2.Slot, .int .i64 a2.Gen]] [RDS A1 cp2 a0, RDK A5 cp6 a0, RE.chunks k_Handle [.int .i64 a1.Slot, .int .i64 a1.Gen, .int .i64 a2.Slot, .int .i64 a2.Gen] ([a1, a2])] := H.below H2.base
 clear H2
 refine ⟨_, rfl, ?_⟩
 show RL _ _ _ _ _ _ _
 refine RL_p (x_assign (v := .int .i64 v20) (by rfl)) ?_
 refine RL_nil ?_
 refine W_seq ?_
 refine W_region ?_
 refine RL_p (x_move (v := .int .i64 v20) (by rfl)) ?_
 refine RL_p (x_neq (by rfl) (by rfl)) ?_
 refine RL_nil ?_
 refine W_cond (by rfl) (fun hb => ?_) (fun hb => ?_)
 ·have hm := cond_t hb hm
  refine W_seq ?_
  refine W_region ?_
  refine RL_p (x_move (v := .int .i64 v20) (by rfl)) ?_
  refine RL_p (x_assign (v := .bool false) (by rfl)) ?_
  refine RL_p (x_assign (v := .int .i64 v20) (by rfl)) ?_
  refine RL_nil ?_
  refine W_ret ?_
  obtain rfl := Option.some.inj hm
  exact ⟨[.bool false, .int .i64 v20], (.tmp (by rfl) (.tmp (by rfl) rfl)), rfl, H.none_⟩
 ·have hm := cond_f hb hm
  refine W_skip ?_
  refine W_seq ?_
  refine W_region ?_
  refine RL_p (x_loadA (j := 0) (vs := [.slice A1 a0.Arena.Slots.length cp2, .slice A5 a0.Kids.length cp6]) ag79 (by rfl) (H.cells (i := 0) (by rfl)) (by rfl) (by rfl)) ?_
  refine RL_p (x_loadA (j := 0) (vs := [.int .i64 a1.Slot, .int .i64 a1.Gen]) ag81 (by rfl) (H.cells (i := 1) (by rfl)) (by rfl) (by rfl)) ?_
  refine RL_p (x_loadA (j := 0) (vs := [.int .i64 a2.Slot, .int .i64 a2.Gen]) ag81 (by rfl) (H.cells (i := 2) (by rfl)) (by rfl) (by rfl)) ?_
  obtain ⟨v23, hv22, hm⟩ := bind_some hm
  refine RL_cons (O_call (by exact wn0 rfl) (by rfl) (by rfl) (x_callL (by rfl) (args := [.agg #[.slice A1 a0.Arena.Slots.length cp2, .slice A5 a0.Kids.length cp6], .agg #[.int .i64 a1.Slot, .int .i64 a1.Gen], .agg #[.int .i64 a2.Slot, .int .i64 a2.Gen]]) (by rfl) (cf80 _ _)) (c80 okT K w21 a0 A1 cp2 A5 cp6 a1 a2 (H.rd (i := 0) (by rfl)).any (H.rd (i := 1) (by rfl)).any v23 hv22) ?_)
  rintro e w24 ⟨rfl, H2⟩
  have H : Sep ok w w24 [GRB b9 A1 cp2 A5 cp6 a0, HNB b11 a1, HNB b13 a2, .row (.slice (some ⟨b15, 0, none⟩) ([a1, a2]).length 2) 81 k_Handle.sz ([a1, a2]).length [.int .i64 a1.Slot, .int .i64 a1.Gen, .int .i64 a2.Slot, .int .i64 a2.Gen]] [RDS A1 cp2 a0, RDK A5 cp6 a0, RE.chunks k_Handle [.int .i64 a1.Slot, .int .i64 a1.Gen, .int .i64 a2.Slot, .int .i64 a2.Gen] ([a1, a2])] := H.below H2.base
  clear H2
  refine ⟨_, rfl, ?_⟩
  show RL _ _ _ _ _ _ _
  refine RL_p (x_assign (v := .bool v23) (by rfl)) ?_
  refine RL_p (x_assign (v := .int .i64 0) (by rfl)) ?_
  refine RL_nil ?_
  refine W_ret ?_
  obtain rfl := Option.some.inj hm
  exact ⟨[.bool v23, .int .i64 0], (.tmp (by rfl) (.tmp (by rfl) rfl)), rfl, H.none_⟩
end Go.Proofs.YtobkigllalbkiaaV.M

/- Graphs, in plain Lean: which may be; the program's check of one, and what it asks of handles. -/
set_option linter.unusedVariables false
set_option linter.unusedSimpArgs false
namespace Go.Proofs.YtobkigllalbkiaaV.M
open Go.RowKit Go.Proofs.YtobkigllalbkiaaV
open Classical
def ArenaOK (a : S_Arena) : Prop := a.Slots.length ≤ 128 ∧ ∀ s ∈ a.Slots, 1 ≤ s.Gen ∧ s.Gen ≤ 1073741824
def HeldA (a : S_Arena) (h : S_Handle) : Prop := 0 ≤ h.Slot ∧ ∃ s, a.Slots[h.Slot.toNat]? = some s ∧ s.Gen = h.Gen ∧ s.Live = true
def RowOK (g : S_Graph) (j : Nat) (l : List S_Handle) : Prop := l.length ≤ 16 ∧ (l ≠ [] → ∃ s, g.Arena.Slots[j]? = some s ∧ s.Live = true) ∧ ∀ h ∈ l, HeldA g.Arena h
def LoopAt (g : S_Graph) (j : Nat) (l : List S_Handle) : Prop := ∃ s, g.Arena.Slots[j]? = some s ∧ ∃ h ∈ l, Reach g h ⟨j, s.Gen⟩
/-- What is asked but for loops. -/
structure Shape (g : S_Graph) : Prop where
  arena : ArenaOK g.Arena
  len : g.Kids.length = g.Arena.Slots.length
  rows : ∀ j l, g.Kids[j]? = some l → RowOK g j l
structure May (g : S_Graph) : Prop extends Shape g where
  loose : ∀ j l, g.Kids[j]? = some l → ¬ LoopAt g j l
theorem heldA_iff (g : S_Graph) (h : S_Handle) : HeldA g.Arena h ↔ Held g h := Iff.rfl
theorem Shape.whole {g : S_Graph} (h : Shape g) : Whole g where
  len := h.len
  held := fun x k hk => by
    unfold kids at hk
    cases hl : g.Kids[x.Slot.toNat]? with
    | none => rw [hl] at hk; simp at hk
    | some l => rw [hl] at hk; exact (h.rows _ l hl).2.2 k hk
theorem m122_eq (K : Nat) (s : S_Slot) : m122 K s = some (decide (s.Gen < 1) || decide (1073741824 < s.Gen)) := by
  unfold m122
  cases decide (s.Gen < 1) <;> simp
theorem m88_eq (K : Nat) (a : S_Arena) : m88 K a = some (if ArenaOK a then 0 else 8) := by
  unfold m88
  by_cases h : 128 < a.Slots.length
  · rw [decide_eq_true (by omega : (128 : Int) < (a.Slots.length : Int)), if_neg (by unfold ArenaOK; omega)]; rfl
  · rw [decide_eq_false (by omega : ¬ (128 : Int) < (a.Slots.length : Int)), cond_false, L.any_some (p := fun s => decide (s.Gen < 1) || decide (1073741824 < s.Gen)) a.Slots (fun x _ => m122_eq K x), Option.bind_some]
    by_cases hA : ArenaOK a
    · rw [if_pos hA]
      have : a.Slots.any (fun s => decide (s.Gen < 1) || decide (1073741824 < s.Gen)) = false := by
        rw [List.any_eq_false]
        intro s hs
        have := hA.2 s hs
        simp; omega
      rw [this]; rfl
    · rw [if_neg hA]
      have : a.Slots.any (fun s => decide (s.Gen < 1) || decide (1073741824 < s.Gen)) = true := by
        cases hc : a.Slots.any (fun s => decide (s.Gen < 1) || decide (1073741824 < s.Gen)) with
        | true => rfl
        | false =>
          rw [List.any_eq_false] at hc
          refine absurd ⟨by omega, fun s hs => ?_⟩ hA
          have := hc s hs
          simp at this; omega
      rw [this]; rfl
theorem m120_eq (K : Nat) (a : S_Arena) (h : S_Handle) : m120 K a h = some (decide (HeldA a h)) := by
  unfold m120
  by_cases h0 : 0 ≤ h.Slot
  · rw [decide_eq_true h0, cond_true, Option.bind_some]
    by_cases h1 : h.Slot < (a.Slots.length : Int)
    · have hlt : h.Slot.toNat < a.Slots.length := by omega
      have hg := L.lt_get hlt
      rw [decide_eq_true h1, cond_true, L.idx_in h0 hg, Option.bind_some]
      congr 1
      by_cases hH : HeldA a h
      · rw [decide_eq_true hH]
        obtain ⟨_, s, e, q1, q2⟩ := hH
        rw [hg] at e; cases e
        simp [q1, q2]
      · rw [decide_eq_false hH]
        cases hc : (a.Slots[h.Slot.toNat].Gen == h.Gen && a.Slots[h.Slot.toNat].Live == true) with
        | false => rfl
        | true =>
          simp only [Bool.and_eq_true, beq_iff_eq] at hc
          exact absurd ⟨h0, _, hg, hc.1, hc.2⟩ hH
    · rw [decide_eq_false h1, cond_false, Option.bind_some, decide_eq_false]
      rintro ⟨_, s, e, _⟩
      have := (List.getElem?_eq_some_iff.1 e).1; omega
  · rw [decide_eq_false h0, cond_false, Option.bind_some, cond_false, Option.bind_some, decide_eq_false (fun q => h0 q.1)]
theorem m90_eq (K : Nat) (a : S_Arena) (h : S_Handle) : m90 K a h = some (decide (ArenaOK a ∧ HeldA a h)) := by
  unfold m90
  rw [m88_eq, Option.bind_some]
  by_cases hA : ArenaOK a
  · rw [if_pos hA, m120_eq]; simp [hA]
  · rw [if_neg hA]; simp [hA]
theorem m89_eq (K : Nat) (h : S_Handle) (g : S_Graph) (hA : ArenaOK g.Arena) : m89 K h g = some (!decide (HeldA g.Arena h)) := by
  unfold m89
  rw [m90_eq]; simp [hA]
/-- Where the walk found nothing, nothing is reached. -/
theorem closed_not {g : S_Graph} {to : S_Handle} {s : List (Int × Int)} (hN : New g to [] s) {h t : S_Handle} (hr : Reach g h t) : pr h ∈ s → t ≠ to := by
  induction hr with
  | refl h => exact fun hs => (hN h hs (by simp)).1
  | step hk _ ih => exact fun hs => ih ((hN _ hs (by simp)).2 _ hk)
theorem unseen_bound (g : S_Graph) (s : List (Int × Int)) : unseen g s ≤ g.Arena.Slots.length := by
  unfold unseen allH
  exact Nat.le_trans (List.length_filter_le _ _) (by simp)
theorem m80_eq {K : Nat} {g : S_Graph} (W : Whole g) (hK : g.Arena.Slots.length < K) {h to : S_Handle} (hh : Held g h) : m80 K g h to = some (decide (Reach g h to)) := by
  unfold m80 m93
  obtain ⟨b, s', e, _, ht, hf⟩ := look_ok (to := to) (K := K) W K [] h hh (Nat.lt_of_le_of_lt (unseen_bound g []) hK)
  rw [e, Option.map_some]
  congr 1
  cases b with
  | true => exact (decide_eq_true (ht rfl)).symm
  | false =>
    obtain ⟨h1, h2⟩ := hf rfl
    exact (decide_eq_false fun hr => closed_not h2 hr h1 rfl).symm
/-- The row of a node: does one of them reach it? -/
theorem m92_any {K : Nat} {g : S_Graph} (W : Whole g) (hK : g.Arena.Slots.length < K) (to : S_Handle) (l : List S_Handle) (hl : ∀ h ∈ l, Held g h) :
    ∃ q s', anyS (m92 K g to) [] 0 l = some (q, s') ∧ (0 ≤ q ↔ ∃ h ∈ l, Reach g h to) := by
  have e : m92 K g to = m124 K to g K := rfl
  rw [e]
  obtain ⟨q, s', h1, _, ht, hf⟩ := looks (g := g) (to := to) (K := K) (n := K) (fun s h hh hn => look_ok W K s h hh hn) l 0 [] (Int.le_refl _) hl (Nat.lt_of_le_of_lt (unseen_bound g []) hK)
  refine ⟨q, s', h1, ht, ?_⟩
  rintro ⟨h, hh, hr⟩
  by_cases hq : 0 ≤ q
  · exact hq
  · obtain ⟨ha, hN⟩ := hf hq
    exact absurd rfl (closed_not hN hr (ha h hh))
theorem m43_loop2 {K : Nat} {g : S_Graph} (S : Shape g) (hK : 1000 ≤ K) : m43_l2 K g K [] 0 = some (if ∀ j l, g.Kids[j]? = some l → ¬ LoopAt g j l then 0 else 8) := by
  have hs := S.arena.1
  have hlen := S.len
  refine L.loop (σ := List (Int × Int) × Int) g.Kids.length (fun k s => m43_l2 K g k s.1 s.2) (fun rec s => m43_l2b K g (fun a b => rec (a, b)) s.1 s.2) (fun k => rfl)
    (fun i s => s.2 = (i : Int) ∧ ∀ j l, j < i → g.Kids[j]? = some l → ¬ LoopAt g j l) (fun o => o = some (if ∀ j l, g.Kids[j]? = some l → ¬ LoopAt g j l then 0 else 8)) ?_ ?_ K 0 ([], 0) (Nat.zero_le _) (by omega) ⟨rfl, fun j l hj => absurd hj (Nat.not_lt_zero _)⟩
  · rintro i ⟨seen, y⟩ rec hi ⟨hy, hI⟩ hrec
    simp only at hy hI hrec ⊢
    subst hy
    have g1 := L.lt_get hi
    have g2 := L.lt_get (l := g.Arena.Slots) (i := i) (by omega)
    generalize g.Kids[i] = l at g1
    generalize g.Arena.Slots[i]'(by omega) = s at g2
    unfold m43_l2b
    rw [L.dec_t hi, cond_true, L.idx_nat g1, L.idx_nat g2]
    obtain ⟨q, s', e, hq⟩ := m92_any (K := K) S.whole (by omega) ⟨(i : Int), s.Gen⟩ l (S.rows i l g1).2.2
    rw [e, Option.bind_some]
    by_cases h0 : 0 ≤ q
    · rw [decide_eq_true h0, cond_true, if_neg]
      exact fun hc => hc i l g1 ⟨s, g2, hq.1 h0⟩
    · rw [decide_eq_false h0, cond_false, L.ck_succ (by omega)]
      refine hrec (s', ((i + 1 : Nat) : Int)) ⟨rfl, fun j l' hj hl' => ?_⟩
      by_cases hji : j = i
      · subst hji
        rw [g1] at hl'; cases hl'
        rintro ⟨s2, h2, h3⟩
        rw [g2] at h2; cases h2
        exact h0 (hq.2 h3)
      · exact hI j l' (by omega) hl'
  · rintro ⟨seen, y⟩ rec ⟨hy, hI⟩
    simp only at hy hI ⊢
    subst hy
    unfold m43_l2b
    rw [L.dec_f (Nat.lt_irrefl _), cond_false, if_pos]
    intro j l hl
    exact hI j l (List.getElem?_eq_some_iff.1 hl).1 hl
theorem m43_loop1 {K : Nat} {g : S_Graph} (hA : ArenaOK g.Arena) (hl : g.Kids.length = g.Arena.Slots.length) (hK : 1000 ≤ K) : m43_l1 K g K 0 = some (if May g then 0 else 8) := by
  have hs := hA.1
  refine L.loop (σ := Int) g.Kids.length (fun k s => m43_l1 K g k s) (fun rec s => m43_l1b K g rec s) (fun k => rfl)
    (fun i s => s = (i : Int) ∧ ∀ j l, j < i → g.Kids[j]? = some l → RowOK g j l) (fun o => o = some (if May g then 0 else 8)) ?_ ?_ K 0 0 (Nat.zero_le _) (by omega) ⟨rfl, fun j l hj => absurd hj (Nat.not_lt_zero _)⟩
  · rintro i y rec hi ⟨rfl, hI⟩ hrec
    have g1 := L.lt_get hi
    have g2 := L.lt_get (l := g.Arena.Slots) (i := i) (by omega)
    generalize g.Kids[i] = l at g1
    generalize g.Arena.Slots[i]'(by omega) = s at g2
    unfold m43_l1b
    rw [L.dec_t hi, cond_true, L.idx_nat g1, L.idx_nat g2]
    have no : ¬ RowOK g i l → (some (8 : Int)) = some (if May g then 0 else 8) := fun hn => by
      rw [if_neg]; exact fun hM => hn (hM.rows i l g1)
    by_cases c1 : 16 < l.length
    · rw [decide_eq_true (by omega : (16 : Int) < (l.length : Int))]
      exact no fun hR => absurd hR.1 (by omega)
    rw [decide_eq_false (by omega : ¬ (16 : Int) < (l.length : Int)), cond_false]
    have e2 : ((bif decide (0 < (l.length : Int)) then some (!s.Live) else some false).bind fun b37 => some b37) = some (decide (¬ (l ≠ [] → s.Live = true))) := by
      cases l with
      | nil => simp
      | cons x l =>
        rw [decide_eq_true (by simp : (0 : Int) < ((x :: l).length : Int))]
        cases s.Live <;> simp
    rw [e2, Option.bind_some]
    by_cases c2 : l ≠ [] → s.Live = true
    · rw [decide_eq_false (fun h => h c2), cond_false, L.any_some (p := fun h => !decide (HeldA g.Arena h)) l (fun x _ => m89_eq K x g hA), Option.bind_some]
      by_cases c3 : ∀ h ∈ l, HeldA g.Arena h
      · have : l.any (fun h => !decide (HeldA g.Arena h)) = false := by
          rw [List.any_eq_false]; exact fun x hx => by simp [c3 x hx]
        rw [this, cond_false, L.ck_succ (by omega)]
        refine hrec _ ⟨rfl, fun j l' hj hl' => ?_⟩
        by_cases hji : j = i
        · subst hji
          rw [g1] at hl'; cases hl'
          exact ⟨by omega, fun hne => ⟨s, g2, c2 hne⟩, c3⟩
        · exact hI j l' (by omega) hl'
      · have : l.any (fun h => !decide (HeldA g.Arena h)) = true := by
          cases hc : l.any (fun h => !decide (HeldA g.Arena h)) with
          | true => rfl
          | false =>
            rw [List.any_eq_false] at hc
            exact absurd (fun h hh => by simpa using hc h hh) c3
        rw [this]
        exact no fun hR => c3 hR.2.2
    · rw [decide_eq_true c2]
      refine no fun hR => c2 fun hne => ?_
      obtain ⟨s2, h2, h3⟩ := hR.2.1 hne
      rw [g2] at h2; cases h2; exact h3
  · rintro y rec ⟨rfl, hI⟩
    unfold m43_l1b
    rw [L.dec_f (Nat.lt_irrefl _), cond_false]
    have S : Shape g := ⟨hA, hl, fun j l hl => hI j l (List.getElem?_eq_some_iff.1 hl).1 hl⟩
    rw [m43_loop2 S hK]
    by_cases hM : May g
    · rw [if_pos hM, if_pos hM.loose]
    · rw [if_neg hM, if_neg fun h => hM ⟨S, h⟩]
theorem m43_eq {K : Nat} (hK : 1000 ≤ K) (g : S_Graph) : m43 K g = some (if May g then 0 else 8) := by
  unfold m43
  rw [m88_eq, Option.bind_some]
  by_cases hA : ArenaOK g.Arena
  · rw [if_pos hA]
    by_cases hl : g.Kids.length = g.Arena.Slots.length
    · rw [show ((g.Kids.length : Int) != (g.Arena.Slots.length : Int)) = false by simp [hl]]
      exact m43_loop1 hA hl hK
    · rw [show ((g.Kids.length : Int) != (g.Arena.Slots.length : Int)) = true by simp; omega, if_neg fun h : May g => hl h.len]; rfl
  · rw [if_neg hA, if_neg fun h : May g => hA h.arena]; rfl
theorem m79_eq {K : Nat} (hK : 1000 ≤ K) (g : S_Graph) (l : List S_Handle) (hl : l.length ≤ 100) : m79 K g l = some (if May g then if ∀ h ∈ l, HeldA g.Arena h then 0 else 50 else 8) := by
  unfold m79
  rw [m43_eq hK, Option.bind_some]
  by_cases hM : May g
  · rw [if_pos hM, if_pos hM]
    show m79_l1 K g l K 0 = _
    refine L.loop (σ := Int) l.length (fun k s => m79_l1 K g l k s) (fun rec s => m79_l1b K g l rec s) (fun k => rfl)
      (fun i s => s = (i : Int) ∧ ∀ j h, j < i → l[j]? = some h → HeldA g.Arena h) (fun o => o = some (if ∀ h ∈ l, HeldA g.Arena h then 0 else 50)) ?_ ?_ K 0 0 (Nat.zero_le _) (by omega) ⟨rfl, fun j l hj => absurd hj (Nat.not_lt_zero _)⟩
    · rintro i y rec hi ⟨rfl, hI⟩ hrec
      have g1 := L.lt_get hi
      generalize l[i] = h at g1
      unfold m79_l1b
      rw [L.dec_t hi, cond_true, L.idx_nat g1, m90_eq, Option.bind_some]
      by_cases hh : HeldA g.Arena h
      · rw [decide_eq_true ⟨hM.arena, hh⟩]
        rw [Bool.not_true, cond_false, L.ck_succ (by omega)]
        refine hrec _ ⟨rfl, fun j h' hj hh' => ?_⟩
        by_cases hji : j = i
        · subst hji
          rw [g1] at hh'; cases hh'; exact hh
        · exact hI j h' (by omega) hh'
      · rw [decide_eq_false fun q => hh q.2, if_neg]
        · rfl
        · exact fun hc => hh (hc h (List.mem_iff_getElem?.2 ⟨i, g1⟩))
    · rintro y rec ⟨rfl, hI⟩
      unfold m79_l1b
      rw [L.dec_f (Nat.lt_irrefl _), cond_false, if_pos]
      intro h hh
      obtain ⟨j, hj⟩ := List.mem_iff_getElem?.1 hh
      exact hI j h (List.getElem?_eq_some_iff.1 hj).1 hj
  · rw [if_neg hM, if_neg hM]; rfl
theorem m46_eq {K : Nat} (hK : 1000 ≤ K) (g : S_Graph) (h t : S_Handle) : m46 K g h t = some (if May g then if HeldA g.Arena h ∧ HeldA g.Arena t then (decide (Reach g h t), 0) else (false, 50) else (false, 8)) := by
  unfold m46
  rw [m79_eq hK g _ (by simp), Option.bind_some]
  by_cases hM : May g
  · rw [if_pos hM, if_pos hM]
    by_cases hH : HeldA g.Arena h ∧ HeldA g.Arena t
    · rw [if_pos (by simpa using hH), if_pos hH]
      show (m80 K g h t).bind _ = _
      have := hM.arena.1
      rw [m80_eq hM.toShape.whole (by omega) hH.1]; rfl
    · rw [if_neg (by simpa using hH), if_neg hH]; rfl
  · rw [if_neg hM, if_neg hM]; rfl
end Go.Proofs.YtobkigllalbkiaaV.M
