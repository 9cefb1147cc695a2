/- Part 2 of the texts that the proof of TopCard stands on. -/
import Derived.Test.YtobkigllalbkiaaDoorTopCardZA
/- Sets of pairs of numbers, kept as a map to truth values: made, asked, written, cleared. Nothing here names a program. -/
set_option linter.unusedVariables false
set_option linter.unusedSimpArgs false
namespace Go.Proofs.YtobkigllalbkiaaV
open Go.RowKit
section
variable {P : Program} {w : World} {t : TypeId}
/-- The plan of a pair of numbers. -/
def pairPlan : List (TypeDesc × Nat) := [(.int .i64, 0), (.int .i64, 1)]
theorem eqL_pair (a b : Int × Int) : eqL pairPlan [.int .i64 a.1, .int .i64 a.2] [.int .i64 b.1, .int .i64 b.2] = some (decide (a = b)) := by
  have : decide (a = b) = ((a.1 == b.1) && (a.2 == b.2)) := by
    rw [Bool.eq_iff_iff]
    simp [Prod.ext_iff]
  rw [this]; rfl
theorem run_equal_pair (hp : structOf P t = some pairPlan) (a b : Int × Int) : (Op.equal t (hkey a) (hkey b)).run P w = .ok (decide (a = b)) w := by
  unfold structOf at hp
  split at hp
  · rename_i fs hfs
    split at hp
    · cases hp
    · rename_i hst
      have hst : P.stoodInHeld t = false := by simpa using hst
      have hfo : P.fieldsOf t = fs := by simp [Program.fieldsOf, hfs]
      have := run_eqFields_plan (P := P) (w := w) (n := 9998) hp (eqL_pair a b)
      simp only [Op.equal, Op.maxDepth, hkey]
      rw [run_equalIn_agg (P := P) w 9999 t _ _ (by rw [hfo]; exact hfs) hst, hfo]
      exact this
  · cases hp
theorem run_findAsking_set (hp : structOf P t = some pairPlan) (h : Int × Int) : ∀ (es : List MapEntry) (hs : List (Int × Int)) (i : Nat), es.map (fun e => (e.key, e.val)) = hs.map (fun h => (hkey h, Value.bool true)) →
    (h ∈ hs → ∃ j, (Instr.findAsking t (hkey h) es i).run P w = .ok (some (j, .bool true)) w) ∧ (h ∉ hs → (Instr.findAsking t (hkey h) es i).run P w = .ok none w)
  | [], hs, i, he => by
    have : hs = [] := by simpa using he.symm
    subst this
    exact ⟨fun h => (by cases h), fun _ => by simp [Instr.findAsking]⟩
  | e :: es, [], i, he => by simp at he
  | e :: es, k :: hs, i, he => by
    simp only [List.map_cons, List.cons.injEq, Prod.mk.injEq] at he
    obtain ⟨⟨e1, e2⟩, he⟩ := he
    have ih := run_findAsking_set hp h es hs (i + 1) he
    have hq := run_equal_pair (w := w) hp h k
    by_cases hk : h = k
    · subst hk
      refine ⟨fun _ => ⟨i, ?_⟩, fun hn => absurd (by simp) hn⟩
      simp [Instr.findAsking, e1, hq, e2]
    · refine ⟨fun hm => ?_, fun hn => ?_⟩
      · obtain ⟨j, hj⟩ := ih.1 (by simpa [hk] using hm)
        exact ⟨j, by simp [Instr.findAsking, e1, hq, hk, hj]⟩
      · have := ih.2 (by intro hm; exact hn (by simp [hm]))
        simp [Instr.findAsking, e1, hq, hk, this]
theorem run_findKey_set (hp : structOf P t = some pairPlan) {es : Array MapEntry} {hs : List (Int × Int)} (S : SetRel es hs) (h : Int × Int) :
    (h ∈ hs → ∃ j, (Instr.findKey t (hkey h) es.toList).run P w = .ok (some (j, .bool true)) w) ∧ (h ∉ hs → (Instr.findKey t (hkey h) es.toList).run P w = .ok none w) := by
  have hu : ∃ fs, P.underlying t = some (.struct fs) := by
    unfold structOf at hp
    split at hp
    · exact ⟨_, by assumption⟩
    · cases hp
  obtain ⟨fs, hu⟩ := hu
  have key := run_findAsking_set (w := w) hp h es.toList hs 0 S
  cases hes : es.toList with
  | nil =>
    rw [hes] at key
    have : hs = [] := by
      have S' := S
      unfold SetRel at S'
      rw [hes] at S'
      simpa using S'.symm
    subst this
    exact ⟨fun h => (by cases h), fun _ => by simp [Instr.findKey, run_underlying hu, Instr.findNow]⟩
  | cons e l =>
    rw [hes] at key
    have hn : Instr.findNow (.struct fs) (hkey h) (e :: l) 0 = none := by
      unfold Instr.findNow
      have : Instr.sameNow (.struct fs) (hkey h) e.key = none := by unfold Instr.sameNow; simp
      rw [this]
    refine ⟨fun hm => ?_, fun hm => ?_⟩
    · obtain ⟨j, hj⟩ := key.1 hm
      exact ⟨j, by simp [Instr.findKey, run_underlying hu, hn, hj]⟩
    · simp [Instr.findKey, run_underlying hu, hn, key.2 hm]
theorem run_checkKey_scal {n : Nat} {b : Bool} {d : TypeDesc} {v : Value} (hd : scalDesc (P.underlying t) = some d) : (Instr.checkKey b (n + 1) t v).run P w = .ok () w := by
  obtain ⟨hu, hk⟩ := scalDesc_some' hd
  unfold Instr.checkKey
  rw [Sem.run_bind, run_underlying hu]
  rcases hk with ⟨k, rfl⟩ | rfl <;> simp [Result.andThen]
theorem run_checkKey_pair {b : Bool} (hp : structOf P t = some pairPlan) (h : Int × Int) : (Instr.checkKey b 10000 t (hkey h)).run P w = .ok () w := by
  unfold structOf at hp
  split at hp
  · rename_i fs hfs
    split at hp
    · cases hp
    · unfold Instr.checkKey
      rw [Sem.run_bind, run_underlying hfs]
      simp only [Result.andThen_ok, hkey]
      have key : ∀ (fl : List Field) (pl : List (TypeDesc × Nat)), planS P fl = some pl → (∀ p ∈ pl, ∃ v, ([.int .i64 h.1, .int .i64 h.2] : List Value)[p.2]? = some v) →
          (forIn (m := Sem) fl PUnit.unit (fun (f : Field) (_ : PUnit) => do
            if f.name ≠ "_" then Instr.checkKey b 9999 f.type (← part f.type #[.int .i64 h.1, .int .i64 h.2] f.offset)
            pure (ForInStep.yield PUnit.unit))).run P w = .ok PUnit.unit w := by
        intro fl
        induction fl with
        | nil => intro pl _ _; simp
        | cons f fl ih =>
          intro pl hp hv
          simp only [planS, List.mapM_cons, Option.bind_eq_bind] at hp
          obtain ⟨p, hp1, hp⟩ := Option.bind_eq_some_iff.1 hp
          obtain ⟨pl', hp2, hp⟩ := Option.bind_eq_some_iff.1 hp
          simp at hp; subst hp
          split at hp1
          · cases hp1
          rename_i hnm
          obtain ⟨d, hd, rfl⟩ := Option.map_eq_some_iff.1 hp1
          obtain ⟨v, hv1⟩ := hv (d, f.offset) (by simp)
          have h1 := ih pl' hp2 (fun q hq => hv q (by simp [hq]))
          have hnm' : f.name ≠ "_" := hnm
          simp only [List.forIn_cons, Sem.run_bind, hnm', ne_eq, not_false_eq_true, if_true]
          have hpt : (part f.type #[Value.int .i64 h.1, Value.int .i64 h.2] f.offset).run P w = .ok v w := run_part_scal hd hv1
          rw [hpt]
          simp only [Result.andThen_ok, run_checkKey_scal hd, Sem.run_pure]
          exact h1
      have := key fs.toList pairPlan hp (by
        intro p hp
        simp [pairPlan] at hp
        rcases hp with rfl | rfl
        · exact ⟨_, rfl⟩
        · exact ⟨_, rfl⟩)
      simpa using this
  · cases hp
end
/-! ### one of the call's own things lent to a callee that writes it -/
def okW (X : Nat → Prop) : Okp := ⟨fun _ _ => True, X, fun _ _ _ _ => trivial⟩
section
variable {ok0 : Okp} {w0 w w' : World} {L : List Ent} {Rs : List RE}
theorem nodup_of_ent {L : List Ent} (hn : (blks L).Nodup) {i : Nat} {e : Ent} (hi : L[i]? = some e) : e.blks.Nodup := by
  induction L generalizing i with
  | nil => simp at hi
  | cons x L ih =>
    simp only [blks, List.nodup_append] at hn
    cases i with
    | zero => simp at hi; subst hi; exact hn.1
    | succ i => exact ih hn.2.1 (by simpa using hi)
theorem blks_one (e : Ent) : blks [e] = e.blks := by simp [blks]
theorem Sep.lend (h : Sep ok0 w0 w L Rs) {i : Nat} {e : Ent} (hi : L[i]? = some e) : Sep (okW (· ∈ e.blks)) w w [e] [] :=
  ⟨BelowX.refl _ _, fun j e' hj => by
      cases j with
      | zero => simp at hj; subst hj; exact h.ents i _ hi
      | succ j => simp at hj,
    fun b hb => by rw [blks_one] at hb; exact ⟨.inr hb, (h.ge b (mem_blks hi hb)).2⟩, by rw [blks_one]; exact nodup_of_ent h.nodup hi, fun j re hj => by simp at hj⟩
/-- What may be read goes along. -/
theorem Sep.lendRd {α : Type} {K : Kd α} {A : Option Addr} {c : Nat} {xs : List α} {i : Nat} {e : Ent} {Rs' : List RE} (h : Sep ok0 w0 w L Rs) (h2 : Sep (okW (· ∈ e.blks)) w w [e] Rs') (hi : L[i]? = some e) (hr : Rd K w (okS ok0 w0 L) A c xs) : Sep (okW (· ∈ e.blks)) w w [e] (Rs' ++ [RE.rd K A c xs]) :=
  h2.also (hr.weak fun b ob _ hb => ⟨fun hb' => hb.1 (mem_blks hi (by rwa [blks_one] at hb')), .inl trivial⟩)
theorem Sep.lendCells {g o : Nat} {cs : List Value} {i : Nat} {e : Ent} {Rs' : List RE} (h : Sep ok0 w0 w L Rs) (h2 : Sep (okW (· ∈ e.blks)) w w [e] Rs') (hi : L[i]? = some e) (hr : (RE.cells g o cs).rel w (okS ok0 w0 L)) : Sep (okW (· ∈ e.blks)) w w [e] (Rs' ++ [RE.cells g o cs]) :=
  h2.also (re := RE.cells g o cs) ⟨hr.1.weak fun ob _ hb => ⟨fun hb' => hb.1 (mem_blks hi (by rwa [blks_one] at hb')), .inl trivial⟩, hr.2⟩
theorem Sep.lendBlk {g t : Nat} {cs : List Value} {i j : Nat} {e : Ent} {Rs' : List RE} (h : Sep ok0 w0 w L Rs) (h2 : Sep (okW (· ∈ e.blks)) w w [e] Rs') (hi : L[i]? = some e) (hj : L[j]? = some (.blk g t cs)) (hne : j ≠ i) : Sep (okW (· ∈ e.blks)) w w [e] (Rs' ++ [RE.cells g 0 cs]) :=
  h2.also (re := RE.cells g 0 cs) ⟨⟨_, h.ents j _ hj, fun hb' => other_blk h.nodup hj hi hne (b := g) (by simp [Ent.blks]) (by rwa [blks_one] at hb'), .inl trivial⟩, h.cells hj⟩
/-- .. and comes back. -/
theorem Sep.back {i : Nat} {e e' : Ent} {L2 : List Ent} {Rs' : List RE} (h : Sep ok0 w0 w L Rs) (hi : L[i]? = some e) (h2 : Sep (okW (· ∈ e.blks)) w w' (e' :: L2) Rs') : Sep ok0 w0 w' (L.set i e') Rs := by
  have hb := h2.bas
  have he : e'.ok w' := h2.ents 0 _ rfl
  refine h.grow hi he hb.size hb.os hb.tape hb.output (fun k hk hk' => hb.block k hk hk') (nodup_of_ent h2.nodup (i := 0) rfl) fun b hb' => ?_
  have := h2.ge b (mem_blks (i := 0) rfl hb')
  rcases this.1 with q | q
  · exact ⟨.inr q, this.2⟩
  · exact ⟨.inl q, this.2⟩
end
/-! ### a map's operations -/
def mapOf (P : Program) (t : TypeId) : Option (TypeId × TypeId) :=
  match P.underlying t with
  | some (.map k e) => some (k, e)
  | _ => none
theorem mapOf_un {P : Program} {t k e : TypeId} (h : mapOf P t = some (k, e)) : P.underlying t = some (.map k e) := by
  unfold mapOf at h
  split at h
  · rename_i k' e' he; simp at h; obtain ⟨rfl, rfl⟩ := h; exact he
  · cases h
def nin {α : Type} (h : Int × Int) (hs : List (Int × Int)) (k : Option α) : Option α := if h ∈ hs then none else k
theorem nin_some {α : Type} {h : Int × Int} {hs : List (Int × Int)} {k : Option α} {res : α} (hm : nin h hs k = some res) : h ∉ hs ∧ k = some res := by
  unfold nin at hm
  split at hm
  · cases hm
  · exact ⟨by assumption, hm⟩
section
variable {P : Program} {ops : Array Oper} {n : Nat} {r : Regs} {ok0 : Okp} {w0 w : World} {K : Regs → World → Prop} {L : List Ent} {Rs : List RE} {d : Nat} {ty : TypeId} {pos : String} {af : Array Edge} {gd : Option (Nat × Bool)} {dst : Option Tmp}
theorem O_makeMap {t : TypeId} (hw : wantedR ops r ⟨some d, .makeMap t none, ty, pos, af, gd⟩ = true) (hn : Nat.blt d n = true) (H : Sep ok0 w0 w L Rs)
    (h : ∀ w' b, Sep ok0 w0 w' (L ++ [.mset b []]) Rs → K (upd r d (.map (some b))) w') : OpR P ops n ⟨some d, .makeMap t none, ty, pos, af, gd⟩ r w K := by
  refine OpR_val hw rfl hn (v := .map (some w.heap.size)) (w' := w.alloc (.map #[] 0)) ?_ (h _ w.heap.size ?_)
  · simp [execOp, run_makeMap]
  · exact H.push _ (below_alloc w _) ⟨#[], 0, heap_alloc_new w _, by simp [SetRel]⟩ (by simp [Ent.blks]) (by simp [Ent.blks])
theorem x_lookupSet {x y : Operand} {t kt et i b : Nat} {hs : List (Int × Int)} {h : Int × Int} (hm : mapOf P t = some (kt, et)) (hp : structOf P kt = some pairPlan) (hz : zeroOf P et = some (.bool false)) (hx : ev r x = .map (some b)) (hy : ev r y = hkey h) (H : Sep ok0 w0 w L Rs) (hi : L[i]? = some (.mset b hs)) :
    (execOp (ev r) ⟨dst, .lookup t x y false, ty, pos, af, gd⟩).run P w = .ok (.value (.bool (decide (h ∈ hs)))) w := by
  obtain ⟨es, clock, hb, S⟩ := H.ents i _ hi
  unfold zeroOf at hz
  obtain ⟨inf, hq, hzz⟩ := Option.bind_eq_some_iff.1 hz
  have hk := run_findKey_set (w := w) hp S h
  have hck := fun b => run_checkKey_pair (w := w) (b := b) hp h
  by_cases hin : h ∈ hs
  · obtain ⟨j, hj⟩ := hk.1 hin
    simp [execOp, hx, hy, Instr.lookup, run_underlying (mapOf_un hm), MapKept.run_getObj_map hb, hck, hj, hin]
  · simp [execOp, hx, hy, Instr.lookup, run_underlying (mapOf_un hm), MapKept.run_getObj_map hb, hck, hk.2 hin, hin, zeroValue, typeInfo, hq, hzz]
theorem O_putSet {x y z : Operand} {t kt et i b : Nat} {hs hs' : List (Int × Int)} {h : Int × Int} (hw : wantedR ops r ⟨none, .mapUpdate t x y z, ty, pos, af, gd⟩ = true) (hm : mapOf P t = some (kt, et)) (hp : structOf P kt = some pairPlan) (hx : ev r x = .map (some b)) (hy : ev r y = hkey h) (hv : ev r z = .bool true)
    (H : Sep ok0 w0 w L Rs) (hi : L[i]? = some (.mset b hs)) (hn : h ∉ hs) (hh : hs ++ [h] = hs') (k : ∀ w', Sep ok0 w0 w' (L.set i (.mset b hs')) Rs → K r w') : OpR P ops n ⟨none, .mapUpdate t x y z, ty, pos, af, gd⟩ r w K := by
  subst hh
  obtain ⟨es, clock, hb, S⟩ := H.ents i _ hi
  have hk := run_findKey_set (w := w) hp S h
  have hck := fun b => run_checkKey_pair (w := w) (b := b) hp h
  refine OpR_unit hw rfl (w' := ChangeMaps.setBlock w b (.map (es.push { key := hkey h, val := .bool true, born := clock }) (clock + 1))) ?_ (k _ ?_)
  · simp [execOp, hx, hy, hv, Instr.mapUpdate, run_underlying (mapOf_un hm), MapKept.run_getObj_map hb, hck, hk.2 hn, MapKept.run_setObj_map _ hb, ChangeMaps.setBlock]
  · refine H.upd_ hi rfl ⟨_, _, ChangeMaps.heap_setBlock_same hb _, ?_⟩ (by simp [ChangeMaps.setBlock]) rfl rfl rfl fun q hq => ChangeMaps.heap_setBlock_other hb _ (by simpa [Ent.blks] using hq)
    unfold SetRel at S ⊢
    simp [S]
theorem O_clearSet {x : Operand} {t i b : Nat} {hs : List (Int × Int)} {kt et : Nat} (hw : wantedR ops r ⟨none, .call { callee := .builtin .clear, args := #[x], argTypes := #[t] }, ty, pos, af, gd⟩ = true) (hm : mapOf P t = some (kt, et)) (hx : ev r x = .map (some b)) (H : Sep ok0 w0 w L Rs) (hi : L[i]? = some (.mset b hs))
    (k : ∀ w', Sep ok0 w0 w' (L.set i (.mset b [])) Rs → K r w') : OpR P ops n ⟨none, .call { callee := .builtin .clear, args := #[x], argTypes := #[t] }, ty, pos, af, gd⟩ r w K := by
  obtain ⟨es, clock, hb, S⟩ := H.ents i _ hi
  refine OpR_val0 hw rfl (v := .tuple #[]) (w' := ChangeMaps.setBlock w b (.map #[] clock)) ?_ (k _ ?_)
  · simp [execOp, resolve, invoke, builtin, hx, Builtin.clear_, run_underlying (mapOf_un hm), MapKept.run_getObj_map hb, MapKept.run_setObj_map _ hb, ChangeMaps.setBlock]
  · exact H.upd_ hi rfl ⟨_, _, ChangeMaps.heap_setBlock_same hb _, by simp [SetRel]⟩ (by simp [ChangeMaps.setBlock]) rfl rfl rfl fun q hq => ChangeMaps.heap_setBlock_other hb _ (by simpa [Ent.blks] using hq)
end
end Go.Proofs.YtobkigllalbkiaaV

/- Rows of rows of the call's own: one taken out, put back, all handed on. Nothing here names a program. -/
set_option linter.unusedVariables false
set_option linter.unusedSimpArgs false
namespace Go.Proofs.YtobkigllalbkiaaV
open Go.RowKit
section
variable {ok0 : Okp} {w0 w w' : World} {L L' : List Ent} {Rs : List RE}
theorem blks_set_perm {L : List Ent} {i : Nat} {e e' : Ent} (hi : L[i]? = some e) : (e.blks ++ blks (L.set i e')).Perm (e'.blks ++ blks L) := by
  induction L generalizing i with
  | nil => simp at hi
  | cons x L ih =>
    cases i with
    | zero =>
      simp at hi; subst hi
      simp only [List.set_cons_zero, blks]
      rw [← List.append_assoc, ← List.append_assoc]
      exact List.Perm.append_right _ List.perm_append_comm
    | succ i =>
      have := ih (i := i) (by simpa using hi)
      simp only [List.set_cons_succ, blks]
      refine (List.perm_append_comm_assoc _ _ _).trans ?_
      refine (List.Perm.append_left x.blks this).trans ?_
      exact List.perm_append_comm_assoc _ _ _
theorem Sep.regroup (h : Sep ok0 w0 w L Rs) (hent : ∀ (i : Nat) (e : Ent), L'[i]? = some e → e.ok w) {X : List Nat} (hp : (X ++ blks L').Perm (blks L)) : Sep ok0 w0 w L' Rs := by
  have hsub : ∀ b, b ∈ blks L' → b ∈ blks L := fun b hb => hp.subset (List.mem_append.2 (.inr hb))
  have hnd : (blks L').Nodup := by
    have := hp.nodup_iff.2 h.nodup
    rw [List.nodup_append] at this
    exact this.2.1
  exact h.step h.bas (Nat.le_refl _) hent (fun b hb => h.ge b (hsub b hb)) hnd fun b hb hl => ⟨fun hb' => hb (hsub b hb'), rfl⟩
theorem ents_set {w : World} {L : List Ent} (h : ∀ (i : Nat) (e : Ent), L[i]? = some e → e.ok w) {k : Nat} {e' : Ent} (he : e'.ok w) : ∀ (i : Nat) (e : Ent), (L.set k e')[i]? = some e → e.ok w := by
  intro i e hi
  by_cases hk : k = i
  · subst hk
    have hlt : k < L.length := by
      have := (List.getElem?_eq_some_iff.1 hi).1
      simpa using this
    rw [List.getElem?_set_self hlt] at hi
    simp at hi; subst hi; exact he
  · rw [List.getElem?_set_ne hk] at hi; exact h i e hi
/-- What lies in a row of the call's own. -/
structure Inn (α : Type) where
  A : Option Addr
  c : Nat
  cs : List Value
  xs : List α
def Inn.v {α : Type} (r : Inn α) : Value := .slice r.A r.xs.length r.c
def Inn.t {α : Type} (r : Inn α) : Value × Nat × List Value := (r.v, r.xs.length, r.cs)
def Inn.hd {α : Type} (r : Inn α) : Option Addr × Nat × Nat := (r.A, r.xs.length, r.c)
def Inn.nil {α : Type} : Inn α := ⟨none, 0, [], []⟩
def rowsOf {α : Type} (t sz : Nat) (l : List (Inn α)) : Ent := .rows t sz (l.map Inn.t)
/-- Heads of slices, as cells. -/
def kHd : Kd (Option Addr × Nat × Nat) := Kd.flat 1 (fun x => [.slice x.1 x.2.1 x.2.2]) (fun _ => rfl) (fun x v hv => by simp at hv; subst hv; rfl)
def RE.inns {α : Type} (K : Kd α) (l : List (Inn α)) : RE := ⟨fun w ok => ∀ r ∈ l, Chunks K w ok r.cs r.xs, fun h hm r hr => (h r hr).keep hm⟩
theorem rowsOf_blks {α : Type} {t sz : Nat} {l : List (Inn α)} : (rowsOf t sz l).blks = l.flatMap fun r => r.v.ownBlock.toList := by
  simp [rowsOf, Ent.blks, List.flatMap_map, Inn.t]
theorem rowsOf_ok {α : Type} {t sz : Nat} {l : List (Inn α)} : (rowsOf t sz l).ok w ↔ ∀ r ∈ l, w.ownsRow 0 t sz r.v r.xs.length r.cs := by
  simp [rowsOf, Ent.ok, Inn.t]
theorem flatMap_set_perm {α β : Type} (f : α → List β) : ∀ {l : List α} {j : Nat} {x y : α}, l[j]? = some x → (f x ++ (l.set j y).flatMap f).Perm (f y ++ l.flatMap f)
  | a :: l, 0, x, y, h => by
    simp at h; subst h
    simp only [List.set_cons_zero, List.flatMap_cons]
    rw [← List.append_assoc, ← List.append_assoc]
    exact List.Perm.append_right _ List.perm_append_comm
  | a :: l, j + 1, x, y, h => by
    have := flatMap_set_perm f (l := l) (j := j) (x := x) (y := y) (by simpa using h)
    simp only [List.set_cons_succ, List.flatMap_cons]
    refine (List.perm_append_comm_assoc _ _ _).trans ?_
    refine (List.Perm.append_left (f a) this).trans ?_
    exact List.perm_append_comm_assoc _ _ _
theorem Sep.rowsNil {α : Type} (h : Sep ok0 w0 w L Rs) (t sz : Nat) : Sep ok0 w0 w (L ++ [rowsOf t sz ([] : List (Inn α))]) Rs :=
  h.push _ (Below.refl _ w) (rowsOf_ok.2 fun r hr => by simp at hr) (by simp [rowsOf_blks]) (by simp [rowsOf_blks])
/-- A row of its own goes behind the others. -/
theorem Sep.rowsPush {α : Type} (h : Sep ok0 w0 w L Rs) {i k t sz : Nat} {l : List (Inn α)} {r : Inn α} (hi : L[i]? = some (rowsOf t sz l)) (hk : L[k]? = some (.row r.v t sz r.xs.length r.cs)) (hne : i ≠ k) : Sep ok0 w0 w ((L.set i (rowsOf t sz (l ++ [r]))).set k .hole) Rs := by
  have hok := rowsOf_ok.1 (h.ents i _ hi)
  have hrow := h.ents k _ hk
  have e1 := blks_set_perm (e' := rowsOf t sz (l ++ [r])) hi
  have hk2 : (L.set i (rowsOf t sz (l ++ [r])))[k]? = some (.row r.v t sz r.xs.length r.cs) := by rw [List.getElem?_set_ne hne]; exact hk
  have e2 := blks_set_perm (e' := .hole) hk2
  refine h.regroup (X := []) (ents_set (ents_set h.ents (rowsOf_ok.2 fun q hq => ?_)) trivial) ?_
  · rcases List.mem_append.1 hq with hq | hq
    · exact hok q hq
    · simp at hq; subst hq; exact hrow
  · rw [rowsOf_blks, rowsOf_blks, List.flatMap_append] at e1
    simp only [List.flatMap_cons, List.flatMap_nil, List.append_nil, List.append_assoc] at e1
    have e3 := (List.perm_append_left_iff _).1 e1
    simp only [Ent.blks, List.nil_append] at e2
    exact (List.perm_append_left_iff _).1 (e2.trans e3)
/-- One of them is taken out. -/
theorem Sep.rowsPull {α : Type} (h : Sep ok0 w0 w L Rs) {i j t sz : Nat} {l : List (Inn α)} {r : Inn α} (hi : L[i]? = some (rowsOf t sz l)) (hj : l[j]? = some r) : Sep ok0 w0 w (L.set i (rowsOf t sz (l.set j Inn.nil)) ++ [.row r.v t sz r.xs.length r.cs]) Rs := by
  have hok := rowsOf_ok.1 (h.ents i _ hi)
  have e1 := blks_set_perm (e' := rowsOf t sz (l.set j Inn.nil)) hi
  have e2 := flatMap_set_perm (fun r : Inn α => r.v.ownBlock.toList) (y := Inn.nil) hj
  have hn : (Inn.nil : Inn α).v.ownBlock.toList = [] := rfl
  rw [hn, List.nil_append] at e2
  have hent1 : ∀ (k : Nat) (e : Ent), (L.set i (rowsOf t sz (l.set j Inn.nil)))[k]? = some e → e.ok w := ents_set h.ents (rowsOf_ok.2 fun q hq => by
    rcases List.mem_or_eq_of_mem_set hq with hq | rfl
    · exact hok q hq
    · exact World.ownsRow_nil w 0 t sz)
  refine h.regroup (X := []) (fun k e hk => ?_) ?_
  · rcases Nat.lt_or_ge k (L.set i (rowsOf t sz (l.set j Inn.nil))).length with hl | hl
    · rw [List.getElem?_append_left hl] at hk; exact hent1 k e hk
    · rw [List.getElem?_append_right hl] at hk
      rcases Nat.eq_zero_or_pos (k - (L.set i (rowsOf t sz (l.set j Inn.nil))).length) with h0 | h0
      · rw [h0] at hk; simp at hk; subst hk; exact hok r (List.mem_of_getElem? hj)
      · obtain ⟨m, hm⟩ : ∃ m, k - (L.set i (rowsOf t sz (l.set j Inn.nil))).length = m + 1 := ⟨_, (Nat.succ_pred_eq_of_pos h0).symm⟩
        rw [hm] at hk; simp at hk
  · rw [blks_append, blks_one, List.nil_append]
    rw [rowsOf_blks, rowsOf_blks] at e1
    have e3 := (List.Perm.append_right (blks (L.set i (rowsOf t sz (l.set j Inn.nil)))) e2).trans e1
    rw [List.append_assoc] at e3
    have e4 : (List.flatMap (fun r : Inn α => r.v.ownBlock.toList) (l.set j Inn.nil) ++ (r.v.ownBlock.toList ++ blks (L.set i (rowsOf t sz (l.set j Inn.nil))))).Perm (List.flatMap (fun r : Inn α => r.v.ownBlock.toList) (l.set j Inn.nil) ++ blks L) := (List.perm_append_comm_assoc _ _ _).trans e3
    exact List.perm_append_comm.trans ((List.perm_append_left_iff _).1 e4)
/-- .. and one is put in, for what was there. -/
theorem Sep.rowsPut {α : Type} (h : Sep ok0 w0 w L Rs) {i j k t sz : Nat} {l : List (Inn α)} {r0 r : Inn α} (hi : L[i]? = some (rowsOf t sz l)) (hj : l[j]? = some r0) (hk : L[k]? = some (.row r.v t sz r.xs.length r.cs)) (hne : i ≠ k) : Sep ok0 w0 w ((L.set i (rowsOf t sz (l.set j r))).set k .hole) Rs := by
  have hok := rowsOf_ok.1 (h.ents i _ hi)
  have hrow := h.ents k _ hk
  have e1 := blks_set_perm (e' := rowsOf t sz (l.set j r)) hi
  have e2 := flatMap_set_perm (fun r : Inn α => r.v.ownBlock.toList) (y := r) hj
  have hk2 : (L.set i (rowsOf t sz (l.set j r)))[k]? = some (.row r.v t sz r.xs.length r.cs) := by rw [List.getElem?_set_ne hne]; exact hk
  have e3 := blks_set_perm (e' := .hole) hk2
  refine h.regroup (X := r0.v.ownBlock.toList) (ents_set (ents_set h.ents (rowsOf_ok.2 fun q hq => ?_)) trivial) ?_
  · rcases List.mem_or_eq_of_mem_set hq with hq | rfl
    · exact hok q hq
    · exact hrow
  · rw [rowsOf_blks, rowsOf_blks] at e1
    simp only [Ent.blks, List.nil_append] at e3
    -- r0 ++ e ++ B1 ~ r0 ++ e' ++ B ~ r ++ e ++ B
    have f1 := (List.Perm.append_left r0.v.ownBlock.toList e1)
    rw [← List.append_assoc r0.v.ownBlock.toList (List.flatMap (fun r : Inn α => r.v.ownBlock.toList) (l.set j r))] at f1
    have f2 := f1.trans (List.Perm.append_right (blks L) e2)
    have f3 : (List.flatMap (fun r : Inn α => r.v.ownBlock.toList) l ++ (r0.v.ownBlock.toList ++ blks (L.set i (rowsOf t sz (l.set j r))))).Perm (List.flatMap (fun r : Inn α => r.v.ownBlock.toList) l ++ (r.v.ownBlock.toList ++ blks L)) := by
      refine (List.perm_append_comm_assoc _ _ _).trans (f2.trans ?_)
      rw [List.append_assoc]
      exact List.perm_append_comm_assoc _ _ _
    have f4 := (List.perm_append_left_iff _).1 f3
    -- r ++ B' ~ B1
    have f5 := (List.Perm.append_left r0.v.ownBlock.toList e3).trans f4
    have f6 : (r.v.ownBlock.toList ++ (r0.v.ownBlock.toList ++ blks ((L.set i (rowsOf t sz (l.set j r))).set k .hole))).Perm (r.v.ownBlock.toList ++ blks L) := (List.perm_append_comm_assoc _ _ _).trans f5
    exact (List.perm_append_left_iff _).1 f6
theorem RE.inns_set {α : Type} {K : Kd α} {l : List (Inn α)} {j : Nat} {r : Inn α} {ok : Okp} (h : (RE.inns K l).rel w ok) (hr : Chunks K w ok r.cs r.xs) : (RE.inns K (l.set j r)).rel w ok := fun q hq => by
  rcases List.mem_or_eq_of_mem_set hq with hq | rfl
  · exact h q hq
  · exact hr
end
section
variable {ok0 : Okp} {w0 w w' : World} {L L' : List Ent} {Rs : List RE}
/-- A row of the call's own, as a slice that may be read. -/
theorem rd_of_own {α : Type} {K : Kd α} {ok' : Okp} {t c : Nat} {A : Option Addr} {cs : List Value} {xs : List α} (hown : w.ownsRow 0 t K.sz (.slice A xs.length c) xs.length cs) (hc : Chunks K w ok' cs xs)
    (hp : ∀ g ob, A = some ⟨g, 0, none⟩ → w.heap[g]? = some ob → unfz ob → ok'.rd g ob) : Rd K w ok' A c xs := by
  rcases hown.2 with ⟨hv, h0⟩ | ⟨g, cap, cur, hv, _, hh, hnc, hcm, hcs, htake⟩
  · simp only [Value.slice.injEq] at hv
    obtain ⟨rfl, h0, rfl⟩ := hv
    obtain rfl : xs = [] := List.eq_nil_of_length_eq_zero h0
    exact ⟨by simp, by simp, fun h => absurd rfl h⟩
  · simp only [Value.slice.injEq] at hv
    obtain ⟨rfl, _, rfl⟩ := hv
    refine ⟨by omega, by simp only [maxLen] at hcm; omega, fun _ => ⟨g, 0, rfl, ⟨_, hh, hp g _ rfl hh rfl⟩, fun j x hj => ⟨_, hc.at_ j x hj, ?_⟩⟩⟩
    refine CellsAt.of_heap (cur := cur.toList) (t := t) (fr := (0, 0)) (by simpa using hh) fun k v hk => ?_
    rw [← htake, List.getElem?_take] at hk
    split at hk
    · rw [List.getElem?_drop, List.getElem?_take] at hk
      split at hk
      · rw [← hk]; congr 1; omega
      · cases hk
    · cases hk
theorem chunks_heads {α : Type} {K : Kd α} {ok ok' : Okp} : ∀ {l : List (Inn α)} {cs : List Value}, Chunks kHd w ok cs (l.map Inn.hd) → (∀ r ∈ l, Rd K w ok' r.A r.c r.xs) → Chunks (Kd.slice K) w ok' cs (l.map (·.xs))
  | [], _, h, _ => h
  | r :: l, cs, h, hr => ⟨⟨r.A, r.c, h.1, hr r (by simp)⟩, chunks_heads h.2 fun q hq => hr q (by simp [hq])⟩
/-- All rows, and their heads, are handed on. -/
theorem Sep.rowsFreeze {α : Type} {K : Kd α} (h : Sep ok0 w0 w L Rs) (hno : ∀ k, ¬ ok0.wr k) (hF : FlatK K) {i o j q t te c : Nat} {A : Option Addr} {cs : List Value} {l : List (Inn α)} (hi : L[i]? = some (rowsOf t K.sz l)) (ho : L[o]? = some (.row (.slice A l.length c) te 1 l.length cs))
    (hj : Rs[j]? = some (RE.chunks kHd cs (l.map Inn.hd))) (hq : Rs[q]? = some (RE.inns K l)) (hne : i ≠ o) : Sep ok0 w0 w ((L.set i .hole).set o .hole) (Rs ++ [RE.fr w0.heap.size (Kd.slice K) A c (l.map (·.xs))]) := by
  have h1 := (h.holeL i).holeL o
  refine h1.also ?_
  have hsub : ∀ b, b ∈ blks ((L.set i .hole).set o .hole) → b ∈ blks (L.set i .hole) := fun b hb => mem_blks_set' hb
  have ho2 : (L.set i .hole)[o]? = some (.row (.slice A l.length c) te 1 l.length cs) := by rw [List.getElem?_set_ne hne]; exact ho
  have perm : ∀ b ob, (b ∈ (rowsOf t K.sz l).blks ∨ b ∈ (Ent.row (.slice A l.length c) te 1 l.length cs).blks) → unfz ob → ((okS ok0 w0 ((L.set i .hole).set o .hole)).fr w0.heap.size).rd b ob := by
    intro b ob hb hu
    have hge : w0.heap.size ≤ b := by
      rcases hb with hb | hb
      · exact (h.ge b (mem_blks hi hb)).1.resolve_right (hno b)
      · exact (h.ge b (mem_blks ho hb)).1.resolve_right (hno b)
    refine ⟨⟨fun hb' => ?_, .inr ⟨hge, hu⟩⟩, hge, hu⟩
    rcases hb with hb | hb
    · exact hole_not h.nodup hi hb (hsub b hb')
    · exact hole_not (h.holeL i).nodup ho2 hb hb'
  have hrows := rowsOf_ok.1 (h.ents i _ hi)
  have hin : (RE.inns K l).rel w _ := h.rds q _ hq
  have hh : (RE.chunks kHd cs (l.map Inn.hd)).rel w _ := h.rds j _ hj
  have inner : ∀ r ∈ l, Rd K w ((okS ok0 w0 ((L.set i .hole).set o .hole)).fr w0.heap.size) r.A r.c r.xs := fun r hr =>
    rd_of_own (hrows r hr) ((hin r hr).flat hF) fun g ob hA hg hu => perm g ob (.inl (by
      rw [rowsOf_blks]
      exact List.mem_flatMap.2 ⟨r, hr, by simp [Inn.v, hA, Value.ownBlock]⟩)) hu
  have hout : w.ownsRow 0 te 1 (.slice A (l.map (·.xs)).length c) (l.map (·.xs)).length cs := by rw [List.length_map]; exact h.ents o _ ho
  exact rd_of_own (K := Kd.slice K) hout (chunks_heads hh inner) fun g ob hA hg hu => perm g ob (.inr (by simp [Ent.blks, Value.ownBlock, hA])) hu
end
end Go.Proofs.YtobkigllalbkiaaV

/- Rows of the call's own, written in place: cut out of, cleared, shifted, made longer. Nothing here names a program. -/
set_option linter.unusedVariables false
set_option linter.unusedSimpArgs false
namespace Go.Proofs.YtobkigllalbkiaaV
open Go.RowKit
section
variable {ok0 : Okp} {w0 w w' : World} {L : List Ent} {Rs : List RE}
/-- An object that stands. -/
def RE.heap (b : Nat) (ob : Obj) : RE := ⟨fun w ok => w.heap[b]? = some ob ∧ ok.rd b ob, fun h hm => by
  have := hm.at' (g := b) ⟨_, h.1, h.2⟩
  obtain ⟨⟨ob', h1, h2⟩, h3⟩ := this
  rw [h3, h.1] at h1
  obtain rfl := Option.some.inj h1
  exact ⟨h3.trans h.1, h2⟩⟩
theorem Sep.rowRaw {α : Type} {D : Kd α} {i e c g : Nat} {cs : List Value} {xs : List α} (H : Sep ok0 w0 w L Rs) (hi : L[i]? = some (.row (.slice (some ⟨g, 0, none⟩) xs.length c) e D.sz xs.length cs)) :
    ∃ cur : List Value, w.heap[g]? = some (.cells cur.toArray e (0, 0)) ∧ cur.length = c * D.sz ∧ xs.length ≤ c ∧ c ≤ maxLen ∧ cur.take (xs.length * D.sz) = cs := by
  have hrow := H.ents i _ hi
  rcases hrow.2 with ⟨hv, h0⟩ | ⟨g', cap, cur, hv, _, hh, hnc, hcm, hcs, htake⟩
  · simp at hv
  · simp only [Value.slice.injEq, Option.some.injEq, Addr.mk.injEq, and_true, true_and] at hv
    obtain ⟨rfl, rfl⟩ := hv
    exact ⟨cur.toList, by simpa using hh, by simpa using hcs, hnc, hcm, htake⟩
/-- A row written in place, wherever in its memory: what it holds then. -/
theorem Sep.rowWrite {α : Type} {D : Kd α} {i j e c g n n0 : Nat} {cs cs0 cur nw : List Value} {ys : List α} (H : Sep ok0 w0 w L Rs) (hi : L[i]? = some (.row (.slice (some ⟨g, 0, none⟩) n0 c) e D.sz n0 cs0))
    (hg : w.heap[g]? = some (.cells cur.toArray e (0, 0))) (hcl : cur.length = c * D.sz) (hcm : c ≤ maxLen) (hnl : nw.length = cur.length) (hn : ys.length = n) (hnc : n ≤ c) (hcs : nw.take (n * D.sz) = cs) (hch : Chunks D w (okS ok0 w0 L) cs ys) :
    Sep ok0 w0 (w.setRow g nw.toArray) (L.set i (.row (.slice (some ⟨g, 0, none⟩) n c) e D.sz n cs)) (Rs.set j (RE.chunks D cs ys)) := by
  have hS := H.upd_ (w' := w.setRow g nw.toArray) (e' := .row (.slice (some ⟨g, 0, none⟩) n c) e D.sz n cs) hi rfl
    ⟨by rw [← hn]; exact hch.len, .inr ⟨g, c, _, rfl, Nat.zero_le _, setRow_heap w g cur.toArray _ e (0, 0) hg, hnc, hcm, by simp; omega, by simpa using hcs⟩⟩ (by simp [World.setRow]) rfl rfl rfl
    fun k hk => setRow_other w g k _ (by simpa [Ent.blks, Value.ownBlock] using hk)
  refine hS.setRe j ?_
  refine (RE.chunks D _ _).keep (w := w) (ok := okS ok0 w0 L) hch ⟨by simp [World.setRow], fun b ob ho hb => ⟨⟨?_, hb.2⟩, setRow_other w g b _ fun he => hb.1 (mem_blks hi (by simp [Ent.blks, Value.ownBlock, he]))⟩⟩
  rw [blks_set (e := .row (.slice (some ⟨g, 0, none⟩) n0 c) e D.sz n0 cs0) hi (by rfl)]; exact hb.1
/-- The first of a row. -/
theorem Sep.rowShrink {α : Type} {D : Kd α} {i j e c : Nat} {A : Option Addr} {cs : List Value} {xs ys : List α} {m : Nat} (H : Sep ok0 w0 w L Rs) (hi : L[i]? = some (.row (.slice A xs.length c) e D.sz xs.length cs)) (hj : Rs[j]? = some (RE.chunks D cs xs)) (hys : xs.take m = ys) (hm : m ≤ xs.length) :
    Sep ok0 w0 w (L.set i (.row (.slice A ys.length c) e D.sz ys.length (cs.take (m * D.sz)))) (Rs.set j (RE.chunks D (cs.take (m * D.sz)) ys)) := by
  have hch : Chunks D w (okS ok0 w0 L) cs xs := H.rds j _ hj
  have hyl : ys.length = m := by subst hys; simp; omega
  have hrow := H.ents i _ hi
  have hc2 : Chunks D w (okS ok0 w0 L) (cs.take (m * D.sz)) ys := by subst hys; exact hch.takeN m
  have hb : (Ent.row (.slice A ys.length c) e D.sz ys.length (cs.take (m * D.sz))).blks = (Ent.row (.slice A xs.length c) e D.sz xs.length cs).blks := by
    cases A <;> rfl
  have hS := H.upd_ (w' := w) (e' := .row (.slice A ys.length c) e D.sz ys.length (cs.take (m * D.sz))) hi hb ?_ rfl rfl rfl rfl fun _ _ => rfl
  · exact hS.setRe j (by rw [okS_set hi hb]; exact hc2)
  · refine ⟨hc2.len, ?_⟩
    rcases hrow.2 with ⟨hv, h0⟩ | ⟨g', cap, cur, hv, h1, hh, hnc, hcm, hcs, htake⟩
    · simp only [Value.slice.injEq] at hv
      obtain ⟨rfl, _, rfl⟩ := hv
      have : ys.length = 0 := by omega
      exact .inl ⟨by rw [this], this⟩
    · simp only [Value.slice.injEq] at hv
      obtain ⟨rfl, _, rfl⟩ := hv
      refine .inr ⟨g', c, cur, rfl, h1, hh, by omega, hcm, hcs, ?_⟩
      rw [← htake, List.take_take, hyl]
      congr 1
      have := Nat.mul_le_mul_right D.sz hm
      omega
theorem chunks_zero {α : Type} {D : Kd α} {z : Value} {x0 : α} (hzs : z.cells.size = D.sz) (hr : ∀ w ok, D.rel w ok z.cells.toList x0) {w : World} {ok : Okp} (m : Nat) : Chunks D w ok (Builtin.zeroCells z.cells m).toList (List.replicate m x0) := by
  have h := chunks_made (D := D) hzs hr (w := w) (ok := ok) m
  have e : Builtin.zeroCells z.cells m = madeCells z.cells (m * D.sz) := by
    unfold Builtin.zeroCells madeCells
    rw [hzs]
  rw [e]; exact h
end
section
variable {P : Program} {ops : Array Oper} {n : Nat} {r : Regs} {ok0 : Okp} {w0 w : World} {K : Regs → World → Prop} {L : List Ent} {Rs : List RE} {d : Nat} {dst : Option Tmp} {ty : TypeId} {pos : String} {af : Array Edge} {gd : Option (Nat × Bool)}
/-- clear(s[lo:hi]), behind what a row of the call's own holds. -/
theorem O_clearPast {α : Type} {D : Kd α} {x : Operand} {t e i j c k c2 lo : Nat} {A A3 : Option Addr} {cs : List Value} {xs : List α} {z : Value} {x0 : α}
    (hw : wantedR ops r ⟨none, .call { callee := .builtin .clear, args := #[x], argTypes := #[t] }, ty, pos, af, gd⟩ = true) (hx : ev r x = .slice A3 k c2) (hA3 : A3 = slA A c lo D.sz)
    (H : Sep ok0 w0 w L Rs) (hi : L[i]? = some (.row (.slice A xs.length c) e D.sz xs.length cs)) (hj : Rs[j]? = some (RE.chunks D cs xs)) (hlo : xs.length ≤ lo) (hle : lo + k ≤ c)
    (hu : slElem P t = some e) (hz0 : zeroOf P e = some z) (hzs : z.cells.size = D.sz) (hr : ∀ w ok, D.rel w ok z.cells.toList x0)
    (h : ∀ w', Sep ok0 w0 w' (L.set i (.row (.slice A xs.length c) e D.sz xs.length cs)) (Rs.set j (RE.chunks D cs xs)) → K r w') : OpR P ops n ⟨none, .call { callee := .builtin .clear, args := #[x], argTypes := #[t] }, ty, pos, af, gd⟩ r w K := by
  subst hA3
  have hu' := slElem_un hu
  have hch : Chunks D w (okS ok0 w0 L) cs xs := H.rds j _ hj
  have same : L.set i (.row (.slice A xs.length c) e D.sz xs.length cs) = L ∧ Rs.set j (RE.chunks D cs xs) = Rs := by
    constructor
    · apply List.ext_getElem?
      intro q
      by_cases hq : i = q
      · subst hq; rw [List.getElem?_set_self (List.getElem?_eq_some_iff.1 hi).1, hi]
      · rw [List.getElem?_set_ne hq]
    · apply List.ext_getElem?
      intro q
      by_cases hq : j = q
      · subst hq; rw [List.getElem?_set_self (List.getElem?_eq_some_iff.1 hj).1, hj]
      · rw [List.getElem?_set_ne hq]
  by_cases hk : k = 0
  · subst hk
    refine OpR_val0 hw rfl (v := .tuple #[]) (w' := w) ?_ (h _ (by rw [same.1, same.2]; exact H))
    cases hs : slA A c lo D.sz with
    | none => simp [execOp, resolve, invoke, builtin, hx, hs, Builtin.clear_, run_underlying hu']
    | some a => simp [execOp, resolve, invoke, builtin, hx, hs, Builtin.clear_, run_underlying hu']
  · obtain ⟨hc, hA⟩ := H.rowForm hi
    obtain ⟨g, rfl⟩ : ∃ g, A = some ⟨g, 0, none⟩ := by
      rcases hA with ⟨_, _, rfl⟩ | h
      · omega
      · exact h
    obtain ⟨cur, hg, hcl, hxc, hcm, htake⟩ := H.rowRaw hi
    have hcl' : c ≠ lo := by omega
    have hs : slA (some ⟨g, 0, none⟩) c lo D.sz = some ⟨g, lo * D.sz, none⟩ := by simp [slA, hcl', add_plain]
    have hzc := chunks_zero (D := D) hzs hr (w := w) (ok := okS ok0 w0 L) k
    have hvl : (Builtin.zeroCells z.cells k).toList.length = k * D.sz := by rw [hzc.len]; simp
    have hfit : lo * D.sz + k * D.sz ≤ c * D.sz := by rw [← Nat.add_mul]; exact Nat.mul_le_mul_right _ hle
    have hst := run_storeCells_at P g (lo * D.sz) e (Builtin.zeroCells z.cells k).toList 0 cur.toArray w hg (by simp only [Nat.add_zero, List.size_toArray]; omega) hzc.one
    simp only [Nat.add_zero, List.toList_toArray] at hst
    obtain ⟨nw, hnw⟩ : ∃ nw, nw = cur.take (lo * D.sz) ++ (Builtin.zeroCells z.cells k).toList ++ cur.drop (lo * D.sz + (Builtin.zeroCells z.cells k).toList.length) := ⟨_, rfl⟩
    rw [← hnw] at hst
    obtain ⟨m, rfl⟩ : ∃ m, k = m + 1 := ⟨k - 1, by omega⟩
    have hzv : (zeroValue e).run P w = .ok z w := by
      unfold zeroOf at hz0
      obtain ⟨inf, hq, hzz⟩ := Option.bind_eq_some_iff.1 hz0
      simp [zeroValue, typeInfo, hq, hzz]
    refine OpR_val0 hw rfl (v := .tuple #[]) (w' := w.setRow g nw.toArray) (by rw [hs] at hx; simp [execOp, resolve, invoke, builtin, hx, Builtin.clear_, run_underlying hu', hzv, hst]) (h _ ?_)
    have hle0 : xs.length * D.sz ≤ lo * D.sz := Nat.mul_le_mul_right _ hlo
    exact H.rowWrite (j := j) hi hg hcl hcm (by subst hnw; simp only [List.length_append, List.length_take, List.length_drop, hvl]; omega) rfl hxc (by
      subst hnw
      rw [List.append_assoc, List.take_append_of_le_length (by rw [List.length_take]; omega), List.take_take, show min (xs.length * D.sz) (lo * D.sz) = xs.length * D.sz by omega]
      exact htake) hch
/-- append(s[:lo], s[b:]...), a row of the call's own. -/
theorem O_cutAppend {α : Type} {D : Kd α} {s x : Operand} {t e i j c c2 m lo b : Nat} {A A3 A4 : Option Addr} {cs : List Value} {xs ys : List α}
    (hw : wantedR ops r ⟨some d, .call { callee := .builtin .append, args := #[s, x], argTypes := #[t, t] }, ty, pos, af, gd⟩ = true) (hn : Nat.blt d n = true)
    (hs : ev r s = .slice A3 lo c) (hA3 : A3 = slA A c 0 D.sz) (hx : ev r x = .slice A4 m c2) (hA4 : A4 = slA A c b D.sz) (hm : m = xs.length - b)
    (H : Sep ok0 w0 w L Rs) (hi : L[i]? = some (.row (.slice A xs.length c) e D.sz xs.length cs)) (hj : Rs[j]? = some (RE.chunks D cs xs)) (hlo : lo ≤ b) (hb : b ≤ xs.length) (hne : 0 < xs.length)
    (hys : xs.take lo ++ xs.drop b = ys) (hu : slElem P t = some e) (hz : szOf P e = some D.sz)
    (h : ∀ w' cs', Sep ok0 w0 w' (L.set i (.row (.slice A ys.length c) e D.sz ys.length cs')) (Rs.set j (RE.chunks D cs' ys)) → K (upd r d (.slice A ys.length c)) w') :
    OpR P ops n ⟨some d, .call { callee := .builtin .append, args := #[s, x], argTypes := #[t, t] }, ty, pos, af, gd⟩ r w K := by
  subst hA3; subst hA4; subst hm
  unfold szOf at hz
  obtain ⟨inf, hq, hsz⟩ := Option.map_eq_some_iff.1 hz
  obtain ⟨hc, hA⟩ := H.rowForm hi
  obtain ⟨g, rfl⟩ : ∃ g, A = some ⟨g, 0, none⟩ := by
    rcases hA with ⟨_, rfl, _⟩ | h
    · simp at hne
    · exact h
  obtain ⟨cur, hg, hcl, hxc, hcm, htake⟩ := H.rowRaw hi
  have hch : Chunks D w (okS ok0 w0 L) cs xs := H.rds j _ hj
  have hcsl := hch.len
  have hcells := H.rowCells hi
  have hbz : b * D.sz ≤ xs.length * D.sz := Nat.mul_le_mul_right _ hb
  have hlz : lo * D.sz ≤ b * D.sz := Nat.mul_le_mul_right _ hlo
  have hxz : xs.length * D.sz ≤ c * D.sz := Nat.mul_le_mul_right _ hxc
  have h3 : slA (some ⟨g, 0, none⟩) c 0 D.sz = some ⟨g, 0, none⟩ := by simp [slA, add_plain]
  obtain ⟨a, h4, hat⟩ : ∃ a, slA (some ⟨g, 0, none⟩) c b D.sz = some a ∧ ∀ q u, (cs.drop (b * D.sz))[q]? = some u → w.cell? (a.add q) = some u := by
    by_cases hcb : c = b
    · refine ⟨⟨g, 0, none⟩, by simp [slA, hcb], fun q u hq => ?_⟩
      rw [List.getElem?_drop] at hq
      have := (List.getElem?_eq_some_iff.1 hq).1
      have hbx : b = xs.length := by omega
      subst hbx
      omega
    · refine ⟨⟨g, b * D.sz, none⟩, by simp [slA, hcb, add_plain], fun q u hq => ?_⟩
      rw [List.getElem?_drop] at hq
      have := hcells _ _ hq
      rw [add_plain]; simpa using this
  have hnl : (cs.drop (b * D.sz)).length = (xs.length - b) * D.sz := by rw [List.length_drop, hcsl, Nat.sub_mul]
  have hrun := run_append_room (P := P) w t ty e inf (slElem_un hu) hq g lo c cur.toArray hg a (xs.length - b) c2 (cs.drop (b * D.sz)) (by rw [hsz]; exact hnl) hat (fun u hu' => hch.one u (List.mem_of_mem_drop hu')) (by omega)
    (by rw [hsz, hnl, List.size_toArray, hcl, ← Nat.add_mul]; exact Nat.mul_le_mul_right _ (by omega))
  have hyl : ys.length = lo + (xs.length - b) := by subst hys; simp; omega
  rw [hsz, ← hyl] at hrun
  obtain ⟨nw, hnw⟩ : ∃ nw, nw = cur.take (lo * D.sz) ++ cs.drop (b * D.sz) ++ cur.drop (lo * D.sz + (cs.drop (b * D.sz)).length) := ⟨_, rfl⟩
  simp only [List.toList_toArray] at hrun
  rw [← hnw] at hrun
  refine OpR_val hw rfl hn (v := .slice (some ⟨g, 0, none⟩) ys.length c) (w' := w.setRow g nw.toArray) (by rw [h3] at hs; rw [h4] at hx; simp [execOp, resolve, invoke, builtin, hs, hx, hrun]) (h _ (cs.take (lo * D.sz) ++ cs.drop (b * D.sz)) ?_)
  have htl : cur.take (lo * D.sz) = cs.take (lo * D.sz) := by rw [← htake, List.take_take, show min (lo * D.sz) (xs.length * D.sz) = lo * D.sz by omega]
  refine H.rowWrite (j := j) hi hg hcl hcm ?_ rfl (by omega) ?_ ?_
  · subst hnw
    simp only [List.length_append, List.length_take, List.length_drop]; omega
  · subst hnw
    rw [htl]
    have hl2 : (cs.take (lo * D.sz) ++ cs.drop (b * D.sz)).length = ys.length * D.sz := by
      rw [List.length_append, List.length_take, hnl, hyl, Nat.add_mul, Nat.min_eq_left (by omega)]
    rw [← hl2, List.take_left']
    rfl
  · subst hys
    exact (hch.takeN lo).app (hch.dropN b)
/-- copy(s[lo+1:], s[lo:]), s one longer than what the row holds. -/
theorem O_copyShift {α : Type} {D : Kd α} {x y : Operand} {td ts e i j c c2 dc lo dn m : Nat} {A A2 A3 : Option Addr} {cs : List Value} {xs ys : List α}
    (hw : wantedR ops r ⟨some d, .call { callee := .builtin .copy, args := #[x, y], argTypes := #[td, ts] }, ty, pos, af, gd⟩ = true) (hn : Nat.blt d n = true)
    (hx : ev r x = .slice A3 dn dc) (hA3 : A3 = slA A c (lo + 1) D.sz) (hdn : dn = xs.length - lo) (hy : ev r y = .slice A2 m c2) (hA2 : A2 = slA A c lo D.sz) (hm : m = xs.length + 1 - lo)
    (H : Sep ok0 w0 w L Rs) (hi : L[i]? = some (.row (.slice A xs.length c) e D.sz xs.length cs)) (hj : Rs[j]? = some (RE.chunks D cs xs))
    (hlo : lo < xs.length) (hc : xs.length + 1 ≤ c) (hu : slElem P td = some e) (hz : szOf P e = some D.sz) (hys : xs.take (lo + 1) ++ xs.drop lo = ys)
    (h : ∀ v w' cs', Sep ok0 w0 w' (L.set i (.row (.slice A ys.length c) e D.sz ys.length cs')) (Rs.set j (RE.chunks D cs' ys)) → K (upd r d v) w') :
    OpR P ops n ⟨some d, .call { callee := .builtin .copy, args := #[x, y], argTypes := #[td, ts] }, ty, pos, af, gd⟩ r w K := by
  subst hA3; subst hA2; subst hm; subst hdn
  unfold szOf at hz
  obtain ⟨inf, hq, hsz⟩ := Option.map_eq_some_iff.1 hz
  have hu' := slElem_un hu
  obtain ⟨_, hA⟩ := H.rowForm hi
  obtain ⟨g, rfl⟩ : ∃ g, A = some ⟨g, 0, none⟩ := by
    rcases hA with ⟨_, rfl, _⟩ | h
    · simp at hlo
    · exact h
  obtain ⟨cur, hg, hcl, hxc, hcm, htake⟩ := H.rowRaw hi
  have hch : Chunks D w (okS ok0 w0 L) cs xs := H.rds j _ hj
  have hcsl := hch.len
  have hcells := H.rowCells hi
  have h3 : slA (some ⟨g, 0, none⟩) c (lo + 1) D.sz = some ⟨g, (lo + 1) * D.sz, none⟩ := by simp [slA, show c ≠ lo + 1 by omega, add_plain]
  have h4 : slA (some ⟨g, 0, none⟩) c lo D.sz = some ⟨g, lo * D.sz, none⟩ := by simp [slA, show c ≠ lo by omega, add_plain]
  have hnl : (cs.drop (lo * D.sz)).length = (xs.length - lo) * D.sz := by rw [List.length_drop, hcsl, Nat.sub_mul]
  have hfc := run_firstCells_some (P := P) w D.sz (xs.length - lo) ⟨g, lo * D.sz, none⟩ (xs.length + 1 - lo) c2 (cs.drop (lo * D.sz)) hnl (fun q v hq => by
    rw [List.getElem?_drop] at hq
    have := hcells _ _ hq
    rw [add_plain]; simpa using this)
  have e1 : (lo + 1) * D.sz + (xs.length - lo) * D.sz = (xs.length + 1) * D.sz := by rw [← Nat.add_mul]; congr 1; omega
  have e2 : (xs.length + 1) * D.sz ≤ c * D.sz := Nat.mul_le_mul_right _ hc
  have e3 : (lo + 1) * D.sz ≤ xs.length * D.sz := Nat.mul_le_mul_right _ hlo
  have hst := run_storeCells_at P g ((lo + 1) * D.sz) e (cs.drop (lo * D.sz)) 0 cur.toArray w hg (by simp only [Nat.add_zero, List.size_toArray]; omega) (fun u hu' => hch.one u (List.mem_of_mem_drop hu'))
  simp only [Nat.add_zero, List.toList_toArray] at hst
  obtain ⟨nw, hnw⟩ : ∃ nw, nw = cur.take ((lo + 1) * D.sz) ++ cs.drop (lo * D.sz) ++ cur.drop ((lo + 1) * D.sz + (cs.drop (lo * D.sz)).length) := ⟨_, rfl⟩
  rw [← hnw] at hst
  have hcopy : (Builtin.copy_ #[td, ts] ty #[.slice (some ⟨g, (lo + 1) * D.sz, none⟩) (xs.length - lo) dc, .slice (some ⟨g, lo * D.sz, none⟩) (xs.length + 1 - lo) c2]).run P w = .ok (.int .i64 ((xs.length - lo : Nat) : Int)) (w.setRow g nw.toArray) := by
    have hmin : (xs.length + 1 - lo).min (xs.length - lo) = xs.length - lo := Nat.min_eq_right (by omega)
    simp [Builtin.copy_, run_underlying hu', Builtin.lenOf, hmin, sizeOf, typeInfo, hq, hsz, hfc, goInt, hst]
  refine OpR_val hw rfl hn (v := .int .i64 ((xs.length - lo : Nat) : Int)) (w' := w.setRow g nw.toArray) (by rw [h3] at hx; rw [h4] at hy; simp [execOp, resolve, invoke, builtin, hx, hy, hcopy]) (h _ _ (cs.take ((lo + 1) * D.sz) ++ cs.drop (lo * D.sz)) ?_)
  have htl : cur.take ((lo + 1) * D.sz) = cs.take ((lo + 1) * D.sz) := by rw [← htake, List.take_take, Nat.min_eq_left e3]
  have hyl : ys.length = xs.length + 1 := by subst hys; simp; omega
  refine H.rowWrite (j := j) hi hg hcl hcm ?_ rfl (by omega) ?_ ?_
  · subst hnw
    have hnl2 : cs.length - lo * D.sz = (xs.length - lo) * D.sz := by rw [← List.length_drop]; exact hnl
    simp only [List.length_append, List.length_take, List.length_drop, hnl2]; omega
  · subst hnw
    rw [htl]
    have hl2 : (cs.take ((lo + 1) * D.sz) ++ cs.drop (lo * D.sz)).length = ys.length * D.sz := by
      rw [List.length_append, List.length_take, hnl, hyl, Nat.min_eq_left (by omega)]; exact e1
    rw [← hl2, List.take_left']
    rfl
  · subst hys
    exact (hch.takeN (lo + 1)).app (hch.dropN lo)
/-- append(s[:lo], make(S, k)...), where there is no room: a new row. -/
theorem O_appendMake {α : Type} {D : Kd α} {s x : Operand} {t tn e i j c k lo bytes : Nat} {kq kn : IntKind} {A A3 : Option Addr} {cs : List Value} {xs ys : List α} {z : Value} {x0 : α}
    (hw : wantedR ops r ⟨some d, .call { callee := .builtin .append, args := #[s, x], argTypes := #[t, tn] }, ty, pos, af, gd⟩ = true) (hn : Nat.blt d n = true)
    (hs : ev r s = .slice A3 lo c) (hA3 : A3 = slA A c 0 D.sz) (hx : ev r x = .int kq (k : Int)) (htn : P.underlying tn = some (.int kn))
    (H : Sep ok0 w0 w L Rs) (hi : L[i]? = some (.row (.slice A xs.length c) e D.sz xs.length cs)) (hj : Rs[j]? = some (RE.chunks D cs xs)) (hlo : lo ≤ xs.length) (hne : 0 < xs.length) (hk : c < lo + k) (hk0 : 0 < k)
    (hys : xs.take lo ++ List.replicate k x0 = ys) (hu : slElem P t = some e) (hz : szOf P e = some D.sz) (hby : bytesOf P e = some bytes) (hz0 : zeroOf P e = some z) (hzs : z.cells.size = D.sz) (hpos : Nat.blt 0 D.sz = true)
    (hr : ∀ w ok, D.rel w ok z.cells.toList x0) (hb : (lo + k) * bytes ≤ 140737488355328) (hb0 : Nat.blt 0 bytes = true)
    (h : ∀ w' g' c' cs', Sep ok0 w0 w' (L ++ [.row (.slice (some ⟨g', 0, none⟩) ys.length c') e D.sz ys.length cs']) (Rs ++ [RE.chunks D cs' ys]) → K (upd r d (.slice (some ⟨g', 0, none⟩) ys.length c')) w') :
    OpR P ops n ⟨some d, .call { callee := .builtin .append, args := #[s, x], argTypes := #[t, tn] }, ty, pos, af, gd⟩ r w K := by
  subst hA3
  unfold szOf at hz; unfold bytesOf at hby; unfold zeroOf at hz0
  obtain ⟨inf, hq, hsz⟩ := Option.map_eq_some_iff.1 hz
  simp only [hq, Option.map_some, Option.some.injEq, Option.bind_some] at hby hz0
  obtain ⟨_, hA⟩ := H.rowForm hi
  obtain ⟨g, rfl⟩ : ∃ g, A = some ⟨g, 0, none⟩ := by
    rcases hA with ⟨_, rfl, _⟩ | h
    · simp at hne
    · exact h
  have hch : Chunks D w (okS ok0 w0 L) cs xs := H.rds j _ hj
  have hcsl := hch.len
  have hcells := H.rowCells hi
  have h3 : slA (some ⟨g, 0, none⟩) c 0 D.sz = some ⟨g, 0, none⟩ := by simp [slA, add_plain]
  have hlz : lo * D.sz ≤ xs.length * D.sz := Nat.mul_le_mul_right _ hlo
  have hol : (cs.take (lo * D.sz)).length = lo * inf.size := by rw [List.length_take, hsz]; omega
  have hold := run_firstCells_some (P := P) w.drew inf.size lo ⟨g, 0, none⟩ lo c (cs.take (lo * D.sz)) hol (fun q v hq => by
    rw [List.getElem?_take] at hq
    split at hq
    · have h2 : w.drew.cell? ⟨g, 0 + q, none⟩ = some v := hcells _ _ hq
      rw [add_plain]; exact h2
    · cases hq)
  have hbp := lt_of_blt hb0
  have hle : lo + k ≤ 140737488355328 := Nat.le_trans (Nat.le_mul_of_pos_right _ hbp) hb
  have hcap := nextslicecap_le hk
  have hcapb : Builtin.nextslicecap (lo + k) c * inf.bytes ≤ 281474976710656 := by
    rw [hby]
    have h1 := Nat.mul_le_mul_right bytes hcap
    have h2 : 2 * (lo + k) * bytes = 2 * ((lo + k) * bytes) := Nat.mul_assoc _ _ _
    omega
  have hkb : k * inf.bytes ≤ 281474976710656 := by
    rw [hby]
    have := Nat.mul_le_mul_right bytes (show k ≤ lo + k by omega)
    omega
  have hrun := Go.Lib.run_append_grow_zeros (P := P) w t tn ty e inf z kq kn (slElem_un hu) htn hq hz0 (some ⟨g, 0, none⟩) lo c (cs.take (lo * D.sz)) hold k hk0 (by rw [hsz]; exact lt_of_blt hpos) hk (by omega) hkb hcapb
  have hyl : ys.length = lo + k := by subst hys; simp; omega
  have hge := grownCap_ge w (lo + k) c e
  have hgm := grownCap_le_maxLen w (lo + k) c e (by simp only [maxLen]; omega)
  obtain ⟨gc, hgc⟩ : ∃ gc, grownCap w (lo + k) c e = gc := ⟨_, rfl⟩
  rw [hgc] at hrun hge hgm
  have hzk := chunks_zero (D := D) hzs hr (w := w) (ok := okS ok0 w0 L) k
  have hzr := chunks_zero (D := D) hzs hr (w := w) (ok := okS ok0 w0 L) (gc - (lo + k))
  have hzkl : (Builtin.zeroCells z.cells k).toList.length = k * D.sz := by rw [hzk.len]; simp
  have hzrl : (Builtin.zeroCells z.cells (gc - (lo + k))).toList.length = (gc - (lo + k)) * D.sz := by rw [hzr.len]; simp
  obtain ⟨nw, hnw⟩ : ∃ nw : Array Value, nw = (cs.take (lo * D.sz)).toArray ++ Builtin.zeroCells z.cells k ++ Builtin.zeroCells z.cells (gc - (lo + k)) := ⟨_, rfl⟩
  rw [← hnw, ← hyl] at hrun
  have hb1 := Sep.drew H
  refine OpR_val hw rfl hn (v := .slice (some ⟨w.heap.size, 0, none⟩) ys.length gc) (w' := w.drew.alloc (.cells nw e)) (by rw [h3] at hs; simp [execOp, resolve, invoke, builtin, hs, hx, hrun]) (h _ _ _ (cs.take (lo * D.sz) ++ (Builtin.zeroCells z.cells k).toList) ?_)
  have hchy : Chunks D w (okS ok0 w0 L) (cs.take (lo * D.sz) ++ (Builtin.zeroCells z.cells k).toList) ys := by subst hys; exact (hch.takeN lo).app hzk
  have hnl : nw.toList = (cs.take (lo * D.sz) ++ (Builtin.zeroCells z.cells k).toList) ++ (Builtin.zeroCells z.cells (gc - (lo + k))).toList := by subst hnw; simp
  have H2 := (H.drew.push (.row (.slice (some ⟨w.heap.size, 0, none⟩) ys.length gc) e D.sz ys.length (cs.take (lo * D.sz) ++ (Builtin.zeroCells z.cells k).toList)) (below_alloc _ (.cells nw e))
    ⟨hchy.len, .inr ⟨w.heap.size, gc, nw, rfl, Nat.zero_le _, heap_alloc_new _ _, by omega, hgm, by
      rw [← Array.length_toList, hnl, List.length_append, hchy.len, hzrl, ← Nat.add_mul]; congr 1; omega, by
      rw [hnl, ← hchy.len]; exact List.take_left' rfl⟩⟩ (by simp [Ent.blks, Value.ownBlock]) (by simp [Ent.blks, Value.ownBlock]))
  refine H2.also ?_
  refine (RE.chunks D _ _).keep (w := w) (ok := okS ok0 w0 L) hchy ⟨by simp, fun b ob ho hb' => ?_⟩
  have hlt := lt_of_heap ho
  refine ⟨⟨fun hb2 => ?_, hb'.2⟩, ?_⟩
  · rw [blks_append, List.mem_append] at hb2
    rcases hb2 with hb2 | hb2
    · exact hb'.1 hb2
    · simp [blks, Ent.blks, Value.ownBlock] at hb2; omega
  · exact heap_alloc_old _ _ (by simpa using hlt)
end
section
variable {P : Program} {r : Regs} {w : World} {dst : Option Tmp} {ty : TypeId} {pos : String} {af : Array Edge} {gd : Option (Nat × Bool)}
/-- A call that the model answers itself. -/
theorem x_callV {f : Operand} {fid : FuncId} {first cap : Array Value} {xs : List Operand} {ts : Array TypeId} {args : List Value} {v : Value} (hf : ev r f = .func (.func fid) first cap) (ha : first.toList ++ xs.map (ev r) ++ cap.toList = args)
    (hc : (callFunc fid args.toArray).run P w = .ok (.value v) w) :
    (execOp (ev r) ⟨dst, .call { callee := .value f, args := xs.toArray, argTypes := ts }, ty, pos, af, gd⟩).run P w = .ok (.value v) w := by
  subst ha
  have h : (first ++ (xs.toArray.map (ev r)) ++ cap) = (first.toList ++ xs.map (ev r) ++ cap.toList).toArray := by simp
  simp only [execOp, resolve, hf, Deferred.ofValue, Sem.run_bind, Sem.run_pure, Result.andThen_ok, invoke, h, hc]
theorem x_slice_lhm {x i i2 i3 : Operand} {t e : TypeId} {sz n c : Nat} {A : Option Addr} {k k2 k3 : IntKind} {j j2 j3 : Int} (hu : slElem P t = some e) (hz : szOf P e = some sz) (hx : ev r x = .slice A n c) (hi : ev r i = .int k j) (hi2 : ev r i2 = .int k2 j2) (hi3 : ev r i3 = .int k3 j3) (h0 : 0 ≤ j) (h1 : j ≤ j2) (h2 : j2 ≤ j3) (h3 : j3 ≤ (c : Int)) :
    (execOp (ev r) ⟨dst, .slice t x (some i) (some i2) (some i3), ty, pos, af, gd⟩).run P w = .ok (.value (.slice (slA A j3.toNat j.toNat sz) (j2.toNat - j.toNat) (j3.toNat - j.toNat))) w := by
  unfold szOf at hz
  obtain ⟨inf, hq, hsz⟩ := Option.map_eq_some_iff.1 hz
  have hu' := slElem_un hu
  have h4 : 0 ≤ j2 := Int.le_trans h0 h1
  have h5 : 0 ≤ j3 := Int.le_trans h4 h2
  have h6 : j ≤ (j2.toNat : Int) := by omega
  have h7 : j2 ≤ (j3.toNat : Int) := by omega
  have hb := run_sliceBound (P := P) w k j j2.toNat .slice3C h0 h6
  have hb2 := run_sliceBound (P := P) w k2 j2 j3.toNat .slice3B h4 h7
  simp [execOp, hx, hi, hi2, hi3, Instr.sliceAt, run_underlying hu', Instr.slice, Instr.sliceBounds, run_sliceBound (P := P) w k3 j3 c .slice3Acap h5 h3, hb, hb2, sizeOf, typeInfo, hq, hsz, slA]
theorem x_cap {x : Operand} {t e : TypeId} {A : Option Addr} {n c : Nat} (hu : slElem P t = some e) (hx : ev r x = .slice A n c) :
    (execOp (ev r) ⟨dst, .call { callee := .builtin .cap, args := #[x], argTypes := #[t] }, ty, pos, af, gd⟩).run P w = .ok (.value (.int .i64 (c : Int))) w := by
  simp [execOp, resolve, invoke, builtin, hx, Builtin.cap_, run_underlying (slElem_un hu), goInt]
end
section
variable {P : Program} {w : World}
/-- slices.overlaps, of an object that stands and a row of the call's own: they lie apart. -/
theorem overlaps_own {fid : FuncId} {fn : Func} {t tR e sz vb m vc o lb cb g c : Nat} {cv cur : List Value} (hf : P.funcs[fid]? = some fn) (hname : (fn.name == "runtime.NumGoroutine") = false) (hb : fn.body.isNone = true) (hn : Extern.findNext fn = none)
    (he : Extern.find fn = some (Extern.SlicesOverlaps.overlaps #[t, t] #[tR])) (hu : slElem P t = some e) (hz : szOf P e = some sz)
    (hv : w.heap[vb]? = some (.cells cv.toArray e (0, 0))) (hg : w.heap[g]? = some (.cells cur.toArray e (0, 0))) (hne : vb ≠ g) (hc : cur ≠ []) :
    (callFunc fid #[.slice (some ⟨vb, 0, none⟩) m vc, .slice (some ⟨g, o, none⟩) lb cb]).run P w = .ok (.value (.bool false)) w := by
  have hsz : ∀ w, (Go.sizeOf e).run P w = .ok sz w := fun w => by
    unfold szOf at hz
    obtain ⟨inf, hq, hsz⟩ := Option.map_eq_some_iff.1 hz
    simp [sizeOf, typeInfo, hq, hsz]
  rw [run_callFunc_extern hf hname hb hn he, Go.Lib.run_overlaps_apart w t tR e (slElem_un hu) sz hsz ⟨vb, 0, none⟩ ⟨g, o, none⟩ m vc lb cb hne e e cv.toArray.size cur.toArray.size (by simp [World.shape?, hv]) (by simp [World.shape?, hg]) (by simpa using hc) (by simp [World.frozen?, hv]) (by simp [World.frozen?, hv])]
  rfl
end
/-- The heap has had so many blocks. -/
def RE.sz (m : Nat) : RE := ⟨fun w _ => m ≤ w.heap.size, fun h hm => Nat.le_trans h hm.size⟩
/-- What has come since a time has come since an earlier one. -/
theorem Sep.frLe {α : Type} {K : Kd α} {ok0 : Okp} {w0 w : World} {L : List Ent} {Rs : List RE} {i c m1 m0 : Nat} {A : Option Addr} {xs : List α} (h : Sep ok0 w0 w L Rs) (hi : Rs[i]? = some (RE.fr m1 K A c xs)) (hm : m0 ≤ m1) : Sep ok0 w0 w L (Rs.set i (RE.fr m0 K A c xs)) :=
  h.setRe i (Rd.weak (h.frRd hi) fun b ob _ hb => ⟨hb.1, Nat.le_trans hm hb.2.1, hb.2.2⟩)
end Go.Proofs.YtobkigllalbkiaaV

/- Small words on models, in plain Lean: operations that are told, loops, tests over lists. -/
set_option linter.unusedVariables false
set_option linter.unusedSimpArgs false
namespace Go.Proofs.YtobkigllalbkiaaV.L
variable {α β : Type}
theorem ck_in {x : Int} {k : Int → Option α} (h0 : -9223372036854775808 ≤ x) (h1 : x ≤ 9223372036854775807) : ck x k = k x := if_pos ⟨h0, h1⟩
theorem ck_nat {n : Nat} {k : Int → Option α} (h : n ≤ 9223372036854775807) : ck (n : Int) k = k n := ck_in (by omega) (by omega)
theorem cast_succ (i : Nat) : (i : Int) + 1 = ((i + 1 : Nat) : Int) := by push_cast; rfl
theorem ck_succ {i : Nat} {k : Int → Option α} (h : i < 9223372036854775807) : ck ((i : Int) + 1) k = k ((i + 1 : Nat) : Int) := by rw [cast_succ]; exact ck_nat (by omega)
theorem idx_in {l : List α} {i : Int} {a : α} {k : α → Option β} (h0 : 0 ≤ i) (h : l[i.toNat]? = some a) : idx l i k = k a := by simp [idx, h0, h]
theorem idx_nat {l : List α} {i : Nat} {a : α} {k : α → Option β} (h : l[i]? = some a) : idx l (i : Int) k = k a := idx_in (by omega) (by simpa using h)
theorem apd_in {bytes : Nat} {l : List α} {x : α} {k : List α → Option β} (h : (l.length + 1) * bytes ≤ 140737488355328) : apd bytes l x k = k (l ++ [x]) := if_pos h
theorem apds_in {bytes : Nat} {l m : List α} {k : List α → Option β} (h : (l.length + m.length) * bytes ≤ 140737488355328) : apds bytes l m k = k (l ++ m) := if_pos h
theorem mks_in {bytes : Nat} {n : Int} {z : α} {k : List α → Option β} (h0 : 0 ≤ n) (h : n * bytes ≤ 140737488355328) : mks bytes n z k = k (List.replicate n.toNat z) := if_pos ⟨h0, h⟩
theorem slg_in {a b : Int} {k : Option α} (h0 : 0 ≤ a) (h : a ≤ b) : slg a b k = k := if_pos ⟨h0, h⟩
theorem lete_in {x : α} {k : α → Option β} : lete x k = k x := rfl
theorem lt_get {l : List α} {i : Nat} (h : i < l.length) : l[i]? = some l[i] := List.getElem?_eq_getElem h
theorem dec_t {i n : Nat} (h : i < n) : decide ((i : Int) < (n : Int)) = true := decide_eq_true (by omega)
theorem dec_f {i n : Nat} (h : ¬ i < n) : decide ((i : Int) < (n : Int)) = false := decide_eq_false (by omega)
/-- A loop by fuel that goes up to n: I holds as it goes, P of what it tells. -/
theorem loop {σ : Type} (n : Nat) (F : Nat → σ → Option α) (body : (σ → Option α) → σ → Option α) (hF : ∀ k, F (k + 1) = body (F k)) (I : Nat → σ → Prop) (P : Option α → Prop)
    (step : ∀ i s (rec : σ → Option α), i < n → I i s → (∀ s', I (i + 1) s' → P (rec s')) → P (body rec s)) (fin : ∀ s rec, I n s → P (body rec s)) :
    ∀ k i s, i ≤ n → n < i + k → I i s → P (F k s)
  | 0, i, s, h1, h2, _ => by omega
  | k + 1, i, s, h1, h2, h3 => by
    rw [hF]
    by_cases h : i < n
    · exact step i s _ h h3 fun s' h' => loop n F body hF I P step fin k (i + 1) s' h (by omega) h'
    · obtain rfl : i = n := by omega
      exact fin s _ h3
/-- A test over a list that looks at nothing else. -/
theorem any_pure {f : α → Option Bool} {p : α → Bool} : ∀ (l : List α) (i : Int), (∀ x ∈ l, f x = some (p x)) →
    anyS (fun (_ : Unit) (x : α) => (f x).map fun b => (b, ())) () i l = some ((match l.findIdx? p with | some j => i + (j : Int) | none => -1), ())
  | [], i, _ => rfl
  | x :: l, i, h => by
    unfold anyS
    rw [h x (by simp), Option.map_some, Option.bind_some, List.findIdx?_cons]
    cases hp : p x with
    | true => simp
    | false =>
      simp only [cond_false, Bool.false_eq_true, if_false]
      rw [any_pure l (i + 1) fun y hy => h y (by simp [hy])]
      cases l.findIdx? p with
      | none => rfl
      | some j => simp only [Option.map_some]; rw [show i + 1 + (j : Int) = i + ((j + 1 : Nat) : Int) by push_cast; omega]
theorem any_some {f : α → Option Bool} {p : α → Bool} (l : List α) (h : ∀ x ∈ l, f x = some (p x)) :
    (anyS (fun (_ : Unit) (x : α) => (f x).map fun b => (b, ())) () 0 l).bind (fun v => some (decide (0 ≤ v.1))) = some (l.any p) := by
  rw [any_pure l 0 h, Option.bind_some]
  cases hf : l.findIdx? p with
  | none =>
    rw [List.findIdx?_eq_none_iff] at hf
    have : l.any p = false := by rw [List.any_eq_false]; exact fun x hx => by simp [hf x hx]
    rw [this]; rfl
  | some j =>
    have hj := List.findIdx?_eq_some_iff_getElem.1 hf
    obtain ⟨hl, hp, _⟩ := hj
    have : l.any p = true := List.any_eq_true.2 ⟨_, List.getElem_mem hl, hp⟩
    rw [this]
    simp only [Option.some.injEq, decide_eq_true_eq]; omega
end Go.Proofs.YtobkigllalbkiaaV.L

/- A calculus of told models: T o Q says that o tells something, and that Q holds of it. -/
set_option linter.unusedVariables false
set_option linter.unusedSimpArgs false
namespace Go.Proofs.YtobkigllalbkiaaV
variable {α β : Type}
def T (o : Option α) (Q : α → Prop) : Prop := ∃ r, o = some r ∧ Q r
theorem T.some {r : α} {Q : α → Prop} (h : Q r) : T (Option.some r) Q := ⟨r, rfl, h⟩
theorem T.ck {x : Int} {k : Int → Option α} {Q : α → Prop} (h0 : -9223372036854775808 ≤ x) (h1 : x ≤ 9223372036854775807) (h : T (k x) Q) : T (ck x k) Q := by
  rw [L.ck_in h0 h1]; exact h
theorem T.bnd {o : Option β} {P : β → Prop} {f : β → Option α} {Q : α → Prop} (h : T o P) (h2 : ∀ v, P v → T (f v) Q) : T (o.bind f) Q := by
  obtain ⟨r, rfl, hr⟩ := h; exact h2 r hr
theorem T.bns {v : β} {f : β → Option α} {Q : α → Prop} (h : T (f v) Q) : T ((Option.some v).bind f) Q := h
theorem T.bne {o : Option β} {v : β} {f : β → Option α} {Q : α → Prop} (e : o = Option.some v) (h : T (f v) Q) : T (o.bind f) Q := by rw [e]; exact h
theorem T.ite {b : Bool} {x y : Option α} {Q : α → Prop} (h1 : b = true → T x Q) (h2 : b = false → T y Q) : T (bif b then x else y) Q := by
  cases b
  · exact h2 rfl
  · exact h1 rfl
theorem T.t {b : Bool} {x y : Option α} {Q : α → Prop} (e : b = true) (h : T x Q) : T (bif b then x else y) Q := by subst e; exact h
theorem T.f {b : Bool} {x y : Option α} {Q : α → Prop} (e : b = false) (h : T y Q) : T (bif b then x else y) Q := by subst e; exact h
theorem T.nz {b : Int} {k : Option α} {Q : α → Prop} (hb : b ≠ 0) (h : T k Q) : T (nz b k) Q := by unfold Go.Proofs.YtobkigllalbkiaaV.nz; rw [if_pos hb]; exact h
theorem T.idx {l : List β} {i : Int} {k : β → Option α} {Q : α → Prop} (h0 : 0 ≤ i) (h1 : i < (l.length : Int)) (h : ∀ a, l[i.toNat]? = Option.some a → a ∈ l → T (k a) Q) : T (idx l i k) Q := by
  have e : i.toNat < l.length := by omega
  have e' : l[i.toNat]? = Option.some l[i.toNat] := List.getElem?_eq_getElem e
  rw [L.idx_in h0 e']
  exact h _ e' (List.getElem_mem e)
theorem T.apd {bytes : Nat} {l : List β} {x : β} {k : List β → Option α} {Q : α → Prop} (h : (l.length + 1) * bytes ≤ 140737488355328) (h2 : T (k (l ++ [x])) Q) : T (apd bytes l x k) Q := by
  rw [L.apd_in h]; exact h2
theorem T.imp {o : Option α} {P Q : α → Prop} (h : T o P) (h2 : ∀ v, P v → Q v) : T o Q := by
  obtain ⟨r, e, hr⟩ := h; exact ⟨r, e, h2 r hr⟩
theorem T.eq {o : Option α} {v : α} (h : T o (· = v)) : o = Option.some v := by
  obtain ⟨r, e, rfl⟩ := h; exact e
theorem T.of {o : Option α} {v : α} (h : o = Option.some v) : T o (· = v) := ⟨v, h, rfl⟩
/-- Words on truth values. -/
theorem T.or {b : Bool} {o : Option Bool} {c : Bool} (h : b = false → T o (· = c)) : T (bif b then Option.some true else o) (· = (b || c)) := by
  cases b
  · exact h rfl
  · exact ⟨true, rfl, rfl⟩
theorem T.and {b : Bool} {o : Option Bool} {c : Bool} (h : b = true → T o (· = c)) : T (bif b then o else Option.some false) (· = (b && c)) := by
  cases b
  · exact ⟨false, rfl, rfl⟩
  · exact h rfl
theorem or_some (b c : Bool) : (bif b then Option.some true else Option.some c) = Option.some (b || c) := by cases b <;> rfl
theorem and_some (b c : Bool) : (bif b then Option.some c else Option.some false) = Option.some (b && c) := by cases b <;> rfl
theorem T.loop {σ : Type} (n : Nat) (F : Nat → σ → Option α) (body : (σ → Option α) → σ → Option α) (hF : ∀ k, F (k + 1) = body (F k)) (I : Nat → σ → Prop) (Q : α → Prop)
    (step : ∀ i s (rec : σ → Option α), i < n → I i s → (∀ s', I (i + 1) s' → T (rec s') Q) → T (body rec s) Q) (fin : ∀ s rec, I n s → T (body rec s) Q)
    (k : Nat) (s : σ) (h2 : n < k) (h3 : I 0 s) : T (F k s) Q :=
  L.loop n F body hF I (fun o => T o Q) step fin k 0 s (by omega) (by omega) h3
/-- Bounds of products. -/
theorem mulb {a b A B : Int} (h1 : -A ≤ a) (h2 : a ≤ A) (h3 : -B ≤ b) (h4 : b ≤ B) : -(A * B) ≤ a * b ∧ a * b ≤ A * B := by
  have hA : 0 ≤ A := by omega
  have hB : 0 ≤ B := by omega
  have k : (a * b).natAbs ≤ (A * B).natAbs := by
    rw [Int.natAbs_mul, Int.natAbs_mul]
    exact Nat.mul_le_mul (by omega) (by omega)
  have k2 : 0 ≤ A * B := Int.mul_nonneg hA hB
  omega
theorem divb {a b A : Int} (hb : 1 ≤ b) (h1 : -A ≤ a) (h2 : a ≤ A) : -A ≤ a / b ∧ a / b ≤ A := by
  have hA : 0 ≤ A := by omega
  have k := Int.mul_le_mul_of_nonneg_left hb hA
  constructor
  · apply Int.le_ediv_of_mul_le (by omega)
    have : (-A) * b = -(A * b) := Int.neg_mul ..
    omega
  · apply Int.ediv_le_of_le_mul (by omega)
    omega
theorem mn_le (a b : Int) : mn a b ≤ a ∧ mn a b ≤ b ∧ (mn a b = a ∨ mn a b = b) := by unfold mn; split <;> omega
theorem mx_le (a b : Int) : a ≤ mx a b ∧ b ≤ mx a b ∧ (mx a b = a ∨ mx a b = b) := by unfold mx; split <;> omega
/-- A product with a number between two ends lies between the products with the ends. -/
theorem mul_bt {m a lo hi : Int} (h1 : lo ≤ a) (h2 : a ≤ hi) : (0 ≤ m → m * lo ≤ m * a ∧ m * a ≤ m * hi) ∧ (m ≤ 0 → m * hi ≤ m * a ∧ m * a ≤ m * lo) :=
  ⟨fun h => ⟨Int.mul_le_mul_of_nonneg_left h1 h, Int.mul_le_mul_of_nonneg_left h2 h⟩, fun h => ⟨Int.mul_le_mul_of_nonpos_left h h2, Int.mul_le_mul_of_nonpos_left h h1⟩⟩
/-- Floor of a quotient grows with what is divided; with what divides, by sign. -/
theorem div_mono {a b z' z : Int} (hz' : 1 ≤ z') (hz : 1 ≤ z) (h : a ≤ b) (h1 : a < 0 → z' ≤ z) (h2 : 0 ≤ a → z ≤ z') : a / z' ≤ b / z := by
  apply Int.le_ediv_of_mul_le (by omega)
  have k : a / z' * z' ≤ a := Int.ediv_mul_le a (by omega)
  by_cases ha : a < 0
  · have q : a / z' < 0 := Int.ediv_neg_of_neg_of_pos ha (by omega)
    have := Int.mul_le_mul_of_nonpos_left (a := a / z') (by omega) (h1 ha)
    omega
  · have q : 0 ≤ a / z' := Int.ediv_nonneg (by omega) (by omega)
    have := Int.mul_le_mul_of_nonneg_left (h2 (by omega)) q
    omega
end Go.Proofs.YtobkigllalbkiaaV

/- More operations' rules: parts of arrays that are structs or arrays; arrays sliced; structs of structs compared. Nothing here names a program. -/
set_option linter.unusedVariables false
set_option linter.unusedSimpArgs false
namespace Go.Proofs.YtobkigllalbkiaaV
open Go.RowKit
section
variable {P : Program} {r : Regs} {w : World} {dst : Option Tmp} {ty : TypeId} {pos : String} {af : Array Edge} {gd : Option (Nat × Bool)}
theorem run_isAgg_agg {e n : TypeId} (hs : aggSz P e = some n) : (isAgg e).run P w = .ok true w := by
  unfold aggSz at hs
  split at hs
  · rename_i hd; simp [isAgg, run_underlying hd]
  · rename_i hd; simp [isAgg, run_underlying hd]
  · cases hs
theorem aggSz_info {e n : TypeId} (hs : aggSz P e = some n) : ∃ inf, P.info? e = some inf ∧ inf.size = n := by
  unfold aggSz at hs
  split at hs
  · exact Option.map_eq_some_iff.1 hs
  · exact Option.map_eq_some_iff.1 hs
  · cases hs
theorem run_part_agg {e n o : Nat} {xs vs : List Value} (hs : aggSz P e = some n) (hv : (xs.drop o).take n = vs) : (part e xs.toArray o).run P w = .ok (.agg vs.toArray) w := by
  obtain ⟨inf, hq, hsz⟩ := aggSz_info hs
  subst hv
  have he : xs.toArray.extract o (o + n) = ((xs.drop o).take n).toArray := by
    simp [List.extract_toArray, List.extract_eq_take_drop]
  simp [part, run_isAgg_agg hs, sizeOf, typeInfo, hq, hsz, he]
/-- An array's part that is a struct or an array, of a value. -/
theorem x_indexA {x i : Operand} {t e : TypeId} {k : IntKind} {j : Int} {len n : Nat} {cs vs : List Value} (hu : arrOf P t = some (len, e)) (hs : aggSz P e = some n) (hx : ev r x = .agg cs.toArray) (hi : ev r i = .int k j)
    (h0 : 0 ≤ j) (h1 : j < (len : Int)) (hv : (cs.drop (j.toNat * n)).take n = vs) : (execOp (ev r) ⟨dst, .index t x i, ty, pos, af, gd⟩).run P w = .ok (.value (.agg vs.toArray)) w := by
  obtain ⟨inf, hq, hsz⟩ := aggSz_info hs
  have hp := run_part_agg (w := w) hs hv
  simp [execOp, hx, hi, Instr.index, asIntOf, run_underlying (arrOf_un hu), h0, h1, sizeOf, typeInfo, hq, hsz, hp]
/-- A whole array in memory, as a slice. -/
theorem x_sliceArr {x : Operand} {t e : TypeId} {n sz g o : Nat} (hu : arrOf P t = some (n, e)) (hz : szOf P e = some sz) (hx : ev r x = .pointer (some ⟨g, o, none⟩)) :
    (execOp (ev r) ⟨dst, .slice t x none none none, ty, pos, af, gd⟩).run P w = .ok (.value (.slice (some ⟨g, o, none⟩) n n)) w := by
  unfold szOf at hz
  obtain ⟨inf, hq, hsz⟩ := Option.map_eq_some_iff.1 hz
  by_cases h0 : n = 0
  · subst h0
    simp [execOp, hx, Instr.sliceAt, run_underlying (arrOf_un hu), Instr.slice, Instr.sliceBounds, Instr.sureAddr, sizeOf, typeInfo, hq, hsz]
  · simp [execOp, hx, Instr.sliceAt, run_underlying (arrOf_un hu), Instr.slice, Instr.sliceBounds, Instr.sureAddr, sizeOf, typeInfo, hq, hsz, h0, add_plain]
end
section
variable {P : Program} {ops : Array Oper} {n : Nat} {r : Regs} {w : World} {M : Regs → World → Prop}
/-- A plain operation of a region that draws no order. -/
theorem RL_p {o : Oper} {rest : List Oper} {d : Nat} {v : Value} (hrun : (execOp (ev r) o).run P w = .ok (.value v) w) (h : RL P ops n rest M (upd r d v) w) (hw : wantedR ops r o = true := by exact wn0 rfl) (hd : o.dst = some d := by rfl) (hn : Nat.blt d n = true := by rfl) :
    RL P ops n (o :: rest) M r w := RL_pure hw hd hn hrun h
end
theorem Sep.cellsT {ok0 : Okp} {w0 w : World} {L : List Ent} {Rs : List RE} {i g o : Nat} {cs : List Value} (H : Sep ok0 w0 w L Rs) (hi : Rs[i]? = some (RE.cells g o cs)) : (RE.cells g o cs).rel w okT :=
  ⟨At.weak (H.rds i _ hi).1 fun _ _ _ => trivial, (H.rds i _ hi).2⟩
/-! ### structs of structs compared -/
section
variable {P : Program} {r : Regs} {w : World} {dst : Option Tmp} {ty : TypeId} {pos : String} {af : Array Edge} {gd : Option (Nat × Bool)}
def planS2 (P : Program) (fs : List Field) : Option (List (List (TypeDesc × Nat) × Nat × Nat)) :=
  fs.mapM fun f => if f.name = "_" then none else (structOf P f.type).bind fun pl => (aggSz P f.type).map fun n => (pl, f.offset, n)
def structOf2 (P : Program) (t : TypeId) : Option (List (List (TypeDesc × Nat) × Nat × Nat)) :=
  match P.underlying t with
  | some (.struct fs) => if P.stoodInHeld t then none else planS2 P fs.toList
  | _ => none
def eqL2 : List (List (TypeDesc × Nat) × Nat × Nat) → List Value → List Value → Option Bool
  | [], _, _ => some true
  | [p], xs, ys => eqL p.1 ((xs.drop p.2.1).take p.2.2) ((ys.drop p.2.1).take p.2.2)
  | p :: q :: l, xs, ys => (eqL p.1 ((xs.drop p.2.1).take p.2.2) ((ys.drop p.2.1).take p.2.2)).bind fun b => (eqL2 (q :: l) xs ys).map (b && ·)
theorem run_equalIn_plan {n : Nat} {t : TypeId} {pl : List (TypeDesc × Nat)} {xs ys : List Value} {b : Bool} (hp : structOf P t = some pl) (he : eqL pl xs ys = some b) : (Op.equalIn (n + 2) t (.agg xs.toArray) (.agg ys.toArray)).run P w = .ok b w := by
  unfold structOf at hp
  split at hp
  · rename_i fs hfs
    split at hp
    · cases hp
    · rename_i hst
      have hst : P.stoodInHeld t = false := by simpa using hst
      have hfo : P.fieldsOf t = fs := by simp [Program.fieldsOf, hfs]
      rw [run_equalIn_agg (P := P) w (n + 1) t _ _ (by rw [hfo]; exact hfs) hst, hfo]
      exact run_eqFields_plan hp he
  · cases hp
theorem run_eqFields_plan2 {n : Nat} {xs ys : List Value} : ∀ {fs : List Field} {pl : List (List (TypeDesc × Nat) × Nat × Nat)} {b : Bool}, planS2 P fs = some pl → eqL2 pl xs ys = some b → (Op.eqFields (n + 2) xs.toArray ys.toArray fs).run P w = .ok b w
  | [], pl, b, hp, h => by
    simp [planS2] at hp; subst hp
    simp [eqL2] at h; subst h
    simp [Op.eqFields]
  | f :: fs, pl, b, hp, h => by
    simp only [planS2, List.mapM_cons, Option.bind_eq_bind] at hp
    obtain ⟨p, hp1, hp⟩ := Option.bind_eq_some_iff.1 hp
    obtain ⟨pl', hp2, hp⟩ := Option.bind_eq_some_iff.1 hp
    simp at hp; subst hp
    split at hp1
    · cases hp1
    rename_i hnm
    obtain ⟨d, hd, hp1⟩ := Option.bind_eq_some_iff.1 hp1
    obtain ⟨sz, hsz, rfl⟩ := Option.map_eq_some_iff.1 hp1
    have key : ∃ b0, eqL d ((xs.drop f.offset).take sz) ((ys.drop f.offset).take sz) = some b0 ∧ ((b = b0 ∧ pl' = []) ∨ ∃ b1, eqL2 pl' xs ys = some b1 ∧ b = (b0 && b1)) := by
      cases pl' with
      | nil => exact ⟨b, h, .inl ⟨rfl, rfl⟩⟩
      | cons q l =>
        simp only [eqL2] at h
        obtain ⟨b0, h0, h⟩ := Option.bind_eq_some_iff.1 h
        obtain ⟨b1, h1, rfl⟩ := Option.map_eq_some_iff.1 h
        exact ⟨b0, h0, .inr ⟨b1, h1, rfl⟩⟩
    obtain ⟨b0, h0, hb⟩ := key
    have hrec : ∀ b1, eqL2 pl' xs ys = some b1 → (Op.eqFields (n + 2) xs.toArray ys.toArray fs).run P w = .ok b1 w := fun b1 h1 => run_eqFields_plan2 hp2 h1
    have hnm' : f.name ≠ "_" := hnm
    have q1 := run_part_agg (w := w) hsz (xs := xs) (o := f.offset) rfl
    have q2 := run_part_agg (w := w) hsz (xs := ys) (o := f.offset) rfl
    simp only [Op.eqFields, hnm', ne_eq, not_false_eq_true, if_true, Sem.run_bind, q1, q2, Result.andThen_ok, run_equalIn_plan hd h0]
    rcases hb with ⟨rfl, rfl⟩ | ⟨b1, h1, rfl⟩
    · cases b
      · simp
      · simp [hrec true rfl]
    · cases b0
      · simp
      · simp [hrec b1 h1]
theorem x_eqls2 {x y : Operand} {t t' : TypeId} {pl : List (List (TypeDesc × Nat) × Nat × Nat)} {xs ys : List Value} {b : Bool} (hp : structOf2 P t = some pl) (hg : P.eqGuardType P.depth t = false) (hx : ev r x = .agg xs.toArray) (hy : ev r y = .agg ys.toArray) (he : eqL2 pl xs ys = some b) :
    (execOp (ev r) ⟨dst, .binOp .eql t x y t', ty, pos, af, gd⟩).run P w = .ok (.value (.bool b)) w := by
  unfold structOf2 at hp
  split at hp
  · rename_i fs hfs
    split at hp
    · cases hp
    · rename_i hst
      have hst : P.stoodInHeld t = false := by simpa using hst
      have hfo : P.fieldsOf t = fs := by simp [Program.fieldsOf, hfs]
      simp [execOp, hx, hy, run_eqGuard_agg (P := P) w _ t x y _ _ hg, run_eql_struct, run_equalIn_agg (P := P) w _ t _ _ (by rw [hfo]; exact hfs) hst, hfo, run_eqFields_plan2 hp he]
  · cases hp
end
/-- A variable of the call's own is only read from here on. -/
theorem Sep.blkOpen {ok0 : Okp} {w0 w : World} {L : List Ent} {Rs : List RE} {i b t : Nat} {cs : List Value} (h : Sep ok0 w0 w L Rs) (hi : L[i]? = some (.blk b t cs)) : Sep ok0 w0 w (L.set i .hole) (Rs ++ [RE.cells b 0 cs]) := by
  refine (h.holeL i).also (re := RE.cells b 0 cs) ⟨⟨_, h.ents i _ hi, hole_not h.nodup hi (by simp [Ent.blks]), ?_⟩, h.cells hi⟩
  rcases (h.ge b (mem_blks hi (by simp [Ent.blks]))).1 with q | q
  · exact .inr ⟨q, rfl⟩
  · exact .inl (ok0.wrd b _ q rfl)
end Go.Proofs.YtobkigllalbkiaaV

/- Shorter words for what the printed walks say often: the same rules, with what is always paid alike paid by itself. Nothing here names a program. -/
set_option linter.unusedVariables false
set_option linter.unusedSimpArgs false
namespace Go.Proofs.YtobkigllalbkiaaV
open Go.RowKit
abbrev ii (x : Int) : Value := .int .i64 x
abbrev pp (b : Nat) : Value := .pointer (some ⟨b, 0, none⟩)
theorem wld (w : World) : ∃ W : World, W = w := ⟨_, rfl⟩
section
variable {P : Program} {ops : Array Oper} {n : Nat} {r : Regs} {w : World} {M : Regs → World → Prop} {S : World → Prop} {p : List Mv} {t : PT}
theorem PF {i d : Nat} {o : Oper} {v : Value} (ho : ops[i]? = some o := by rfl) (hd : o.dst = some d := by rfl) (hn : Nat.blt d n = true := by rfl) (hw : wantedR ops r o = true := by exact wn0 rfl) (a : ∀ {w'}, (execOp (ev r) o).run P w' = .ok (.value v) w')
    (b : PR P ops n S p M (upd r d v) w) : PR P ops n S (.free i :: p) M r w := PR_free ho hd hn hw (fun _ => a) b
theorem PF1 {i d : Nat} {o : Oper} {v : Value} (ho : ops[i]? = some o := by rfl) (hd : o.dst = some d := by rfl) (hn : Nat.blt d n = true := by rfl) (hw : wantedR ops r o = true := by exact wn1 rfl rfl rfl rfl) (a : ∀ {w'}, (execOp (ev r) o).run P w' = .ok (.value v) w')
    (b : PR P ops n S p M (upd r d v) w) : PR P ops n S (.free i :: p) M r w := PR_free ho hd hn hw (fun _ => a) b
theorem PT' {i d : Nat} {o : Oper} {v : Value} (ho : ops[i]? = some o := by rfl) (hd : o.dst = some d := by rfl) (hn : Nat.blt d n = true := by rfl) (hw : wantedR ops r o = true := by exact wn0 rfl) (a : ∀ {w'}, S w' → (execOp (ev r) o).run P w' = .ok (.value v) w')
    (b : PR P ops n S p M (upd r d v) w) : PR P ops n S (.take i :: p) M r w := PR_take ho hd hn hw (fun _ => a) b
theorem PT1 {i d : Nat} {o : Oper} {v : Value} (ho : ops[i]? = some o := by rfl) (hd : o.dst = some d := by rfl) (hn : Nat.blt d n = true := by rfl) (hw : wantedR ops r o = true := by exact wn1 rfl rfl rfl rfl) (a : ∀ {w'}, S w' → (execOp (ev r) o).run P w' = .ok (.value v) w')
    (b : PR P ops n S p M (upd r d v) w) : PR P ops n S (.take i :: p) M r w := PR_take ho hd hn hw (fun _ => a) b
theorem TF {i d : Nat} {o : Oper} {v : Value} (ho : ops[i]? = some o := by rfl) (hd : o.dst = some d := by rfl) (hn : Nat.blt d n = true := by rfl) (hw : wantedR ops r o = true := by exact wn0 rfl) (a : ∀ {w'}, (execOp (ev r) o).run P w' = .ok (.value v) w')
    (b : PRT P ops n S t M (upd r d v) w) : PRT P ops n S (.free i t) M r w := PRT_free ho hd hn hw (fun _ => a) b
theorem TT {i d : Nat} {o : Oper} {v : Value} (ho : ops[i]? = some o := by rfl) (hd : o.dst = some d := by rfl) (hn : Nat.blt d n = true := by rfl) (hw : wantedR ops r o = true := by exact wn0 rfl) (a : ∀ {w'}, S w' → (execOp (ev r) o).run P w' = .ok (.value v) w')
    (b : PRT P ops n S t M (upd r d v) w) : PRT P ops n S (.take i t) M r w := PRT_take ho hd hn hw (fun _ => a) b
theorem PO {i d : Nat} {o : Oper} (h : PR P ops n S p M (upd r d undef) w) (ho : ops[i]? = some o := by rfl) (hd : o.dst = some d := by rfl) (hn : Nat.blt d n = true := by rfl) (hw : wantedR ops r o = false := by exact wn2 rfl rfl rfl rfl) : PR P ops n S (.take i :: p) M r w := PR_off ho hd hn hw h
theorem PG {i d : Nat} {o : Oper} (h : PR P ops n S p M (upd r d undef) w) (ho : ops[i]? = some o := by rfl) (hd : o.dst = some d := by rfl) (hn : Nat.blt d n = true := by rfl) (hw : wantedR ops r o = false := by exact wn2 rfl rfl rfl rfl) : PR P ops n S (.free i :: p) M r w := PR_offF ho hd hn hw h
theorem PB {u : PT} {i : Nat} {o : Oper} (h : OpR P ops n o r w fun r' w' => S w' ∧ PRT P ops n S t M r' w') (hu : PRT P ops n S u M r w) (ho : ops[i]? = some o := by rfl) : PRT P ops n S (.br i t u) M r w := PRT_br ho h hu
theorem PA {u : PT} {i : Nat} {o : Oper} (h : OpR P ops n o r w fun r' w' => S w' ∧ PRT P ops n S t M r' w') (hu : PRT P ops n S u M r w) (ho : ops[i]? = some o := by rfl) : PRT P ops n S (.all (.br i t u)) M r w := PRT_all (PRT_br ho h hu)
theorem PL {i : Nat} {o : Oper} (ho : ops[i]? = some o := by rfl) (a : OpR P ops n o r w fun r' w' => PR P ops n S p M r' w') : PR P ops n S (.tail i :: p) M r w := PR_tail ho a
theorem PU {i : Nat} {o : Oper} (ho : ops[i]? = some o := by rfl) (a : OpR P ops n o r w fun r' w' => S w' ∧ PR P ops n S p M r' w') : PR P ops n S (.run i :: p) M r w := PR_run ho a
theorem RO {o : Oper} {rest : List Oper} {d : Nat} (h : RL P ops n rest M (upd r d undef) w) (hw : wantedR ops r o = false := by exact wn2 rfl rfl rfl rfl) (hd : o.dst = some d := by rfl) (hn : Nat.blt d n = true := by rfl) : RL P ops n (o :: rest) M r w := RL_cons (OpR_off hw hd hn h)
theorem RQ {o : Oper} {rest : List Oper} {d : Nat} {v : Value} (hrun : (execOp (ev r) o).run P w = .ok (.value v) w) (h : RL P ops n rest M (upd r d v) w) (hw : wantedR ops r o = true := by exact wn1 rfl rfl rfl rfl) (hd : o.dst = some d := by rfl) (hn : Nat.blt d n = true := by rfl) :
    RL P ops n (o :: rest) M r w := RL_pure hw hd hn hrun h
end
section
variable {P : Program} {ops : Array Oper} {n : Nat} {r : Regs} {w : World} {K : Regs → World → Prop} {ty : TypeId} {pos : String} {af : Array Edge} {gd : Option (Nat × Bool)} {d : Nat} {ok0 : Okp} {w0 : World} {L : List Ent} {Rs : List RE}
theorem OS (i off : Nat) {b t t' : Nat} {x y : Operand} {cs cs' : List Value} {v : Value} (vs : List Value) (hz : szOf P t = some vs.length) (H : Sep ok0 w0 w L Rs) (h : ∀ w', Sep ok0 w0 w' (L.set i (.blk b t' cs')) Rs → K r w')
    (hw : wantedR ops r ⟨none, .store t x y, ty, pos, af, gd⟩ = true := by exact wn0 rfl) (hx : ev r x = .pointer (some ⟨b, off, none⟩) := by rfl) (hy : ev r y = v := by rfl)
    (hi : L[i]? = some (.blk b t' cs) := by rfl) (hv : v.cells.toList = vs := by rfl) (hl : Nat.ble (off + vs.length) cs.length = true := by rfl) (h1 : vs.all Value.oneCell' = true := by rfl)
    (hc : cs.take off ++ vs ++ cs.drop (off + vs.length) = cs' := by rfl) : OpR P ops n ⟨none, .store t x y, ty, pos, af, gd⟩ r w K := O_store hw hx hy H hi hv hz hl h1 hc h
theorem OA {t : TypeId} {z : Value} {cs : List Value} (hz : zeroOf P t = some z) (H : Sep ok0 w0 w L Rs) (h : ∀ w' b, Sep ok0 w0 w' (L ++ [.blk b t cs]) Rs → K (upd r d (.pointer (some ⟨b, 0, none⟩))) w')
    (hw : wantedR ops r ⟨some d, .alloc t, ty, pos, af, gd⟩ = true := by exact wn0 rfl) (hn : Nat.blt d n = true := by rfl) (hc : z.cells.toList = cs := by rfl) : OpR P ops n ⟨some d, .alloc t, ty, pos, af, gd⟩ r w K := O_alloc hw hn hz hc H h
theorem OB {t : TypeId} {x : Operand} {v : Value} {cs : List Value} (H : Sep ok0 w0 w L Rs) (h : ∀ w' b, Sep ok0 w0 w' (L ++ [.blk b t cs]) Rs → K (upd r d (.pointer (some ⟨b, 0, none⟩))) w')
    (hw : wantedR ops r ⟨some d, .box t x, ty, pos, af, gd⟩ = true := by exact wn0 rfl) (hn : Nat.blt d n = true := by rfl) (hx : ev r x = v := by rfl) (hc : v.cells.toList = cs := by rfl) : OpR P ops n ⟨some d, .box t x, ty, pos, af, gd⟩ r w K := O_box hw hn hx hc H h
theorem OC {o : Oper} {f : FuncId} {args : Array Value} {R : Ending → World → Prop} (hrun : (execOp (ev r) o).run P w = .ok (.enter f args) w) (hc : Calls P f args w R) (h : ∀ e w', R e w' → ∃ v, e = .returned v ∧ K (upd r d v) w')
    (hw : wantedR ops r o = true := by exact wn0 rfl) (hd : o.dst = some d := by rfl) (hn : Nat.blt d n = true := by rfl) : OpR P ops n o r w K := O_call hw hd hn hrun hc h
theorem Sep.c (H : Sep ok0 w0 w L Rs) (i : Nat) {b t : Nat} {cs : List Value} (hi : L[i]? = some (.blk b t cs) := by rfl) : CellsAt w b 0 cs := H.cells hi
end
section
variable {P : Program} {r : Regs} {w : World} {dst : Option Tmp} {ty : TypeId} {pos : String} {af : Array Edge} {gd : Option (Nat × Bool)}
theorem xm {x : Operand} (v : Value) (hx : ev r x = v := by rfl) : (execOp (ev r) ⟨dst, .move x, ty, pos, af, gd⟩).run P w = .ok (.value v) w := x_move hx
theorem xa {x : Operand} (v : Value) (hx : ev r x = v := by rfl) : (execOp (ev r) ⟨dst, .assign x, ty, pos, af, gd⟩).run P w = .ok (.value v) w := x_assign hx
theorem xA {x : Operand} {t : TypeId} {g o k : Nat} {cs : List Value} (j : Nat) (vs : List Value) (hs : aggSz P t = some k) (hc : CellsAt w g o cs) (hx : ev r x = .pointer (some ⟨g, o + j, none⟩) := by rfl) (hv : (cs.drop j).take k = vs := by rfl) (hk : vs.length = k := by rfl) :
    (execOp (ev r) ⟨dst, .load t x, ty, pos, af, gd⟩).run P w = .ok (.value (.agg vs.toArray)) w := x_loadA hs hx hc hv hk
theorem xl {x : Operand} {t : TypeId} {g o : Nat} {cs : List Value} (j : Nat) (v : Value) (hs : scal P t = true) (hc : CellsAt w g o cs) (hx : ev r x = .pointer (some ⟨g, o + j, none⟩) := by rfl) (hv : cs[j]? = some v := by rfl) :
    (execOp (ev r) ⟨dst, .load t x, ty, pos, af, gd⟩).run P w = .ok (.value v) w := x_load hs hx hc hv
theorem xI {x i : Operand} {t e : TypeId} {k : IntKind} {j : Int} {len sz g o : Nat} (hu : arrOf P t = some (len, e)) (hz : szOf P e = some sz) (hx : ev r x = .pointer (some ⟨g, o, none⟩) := by rfl) (hi : ev r i = .int k j := by rfl)
    (h0 : 0 ≤ j := by decide) (h1 : j < (len : Int) := by decide) : (execOp (ev r) ⟨dst, .indexAddr t x i, ty, pos, af, gd⟩).run P w = .ok (.value (.pointer (some ⟨g, o + j.toNat * sz, none⟩))) w := x_indexArr hu hz hx hi h0 h1
theorem xi {x i : Operand} {t e : TypeId} {k : IntKind} {j : Int} {len : Nat} {cs : List Value} {v : Value} (hu : arrOf P t = some (len, e)) (hz : szOf P e = some 1) (hs : scal P e = true) (hx : ev r x = .agg cs.toArray := by rfl) (hi : ev r i = .int k j := by rfl)
    (h0 : 0 ≤ j := by decide) (h1 : j < (len : Int) := by decide) (hv : cs[j.toNat]? = some v := by rfl) : (execOp (ev r) ⟨dst, .index t x i, ty, pos, af, gd⟩).run P w = .ok (.value v) w := x_index hu hz hs hx hi h0 h1 hv
theorem xJ {x i : Operand} {t e : TypeId} {k : IntKind} {j : Int} {len n : Nat} {cs : List Value} (vs : List Value) (hu : arrOf P t = some (len, e)) (hs : aggSz P e = some n) (hx : ev r x = .agg cs.toArray := by rfl) (hi : ev r i = .int k j := by rfl)
    (h0 : 0 ≤ j := by decide) (h1 : j < (len : Int) := by decide) (hv : (cs.drop (j.toNat * n)).take n = vs := by rfl) : (execOp (ev r) ⟨dst, .index t x i, ty, pos, af, gd⟩).run P w = .ok (.value (.agg vs.toArray)) w := x_indexA hu hs hx hi h0 h1 hv
theorem xc {f : Operand} {fid : FuncId} {first cap : Array Value} {xs : List Operand} {ts : Array TypeId} (args : List Value) (hc : (callFunc fid args.toArray).run P w = .ok (.enter fid args.toArray) w) (hf : ev r f = .func (.func fid) first cap := by rfl) (ha : first.toList ++ xs.map (ev r) ++ cap.toList = args := by rfl) :
    (execOp (ev r) ⟨dst, .call { callee := .value f, args := xs.toArray, argTypes := ts }, ty, pos, af, gd⟩).run P w = .ok (.enter fid args.toArray) w := x_callL hf ha hc
theorem xf {x : Operand} {s f off g o : Nat} (hf : fieldOff P s f = some off) (hx : ev r x = .pointer (some ⟨g, o, none⟩) := by rfl) :
    (execOp (ev r) ⟨dst, .fieldAddr s x f, ty, pos, af, gd⟩).run P w = .ok (.value (.pointer (some ⟨g, o + off, none⟩))) w := x_fieldAddr hf hx
theorem xe {x : Operand} {vs : Array Value} {i : Nat} (v : Value) (hx : ev r x = .tuple vs := by rfl) (hv : vs[i]? = some v := by rfl) : (execOp (ev r) ⟨dst, .extract x i, ty, pos, af, gd⟩).run P w = .ok (.value v) w := x_extract hx hv
theorem xF {c x y : Operand} (v : Value) (hc : ev r c = .bool false := by rfl) (hy : ev r y = v := by rfl) : (execOp (ev r) ⟨dst, .pick c x y, ty, pos, af, gd⟩).run P w = .ok (.value v) w := x_pick_f hc hy
theorem xT {c x y : Operand} (v : Value) (hc : ev r c = .bool true := by rfl) (hx : ev r x = v := by rfl) : (execOp (ev r) ⟨dst, .pick c x y, ty, pos, af, gd⟩).run P w = .ok (.value v) w := x_pick_t hc hx
variable {x y : Operand} {k : IntKind} {a b c : Int} {t t' : TypeId}
theorem xL (hx : ev r x = .int k a := by rfl) (hy : ev r y = .int k b := by rfl) : (execOp (ev r) ⟨dst, .binOp .lss t x y t', ty, pos, af, gd⟩).run P w = .ok (.value (.bool (decide (a < b)))) w := x_lss hx hy
theorem xG (hx : ev r x = .int k a := by rfl) (hy : ev r y = .int k b := by rfl) : (execOp (ev r) ⟨dst, .binOp .gtr t x y t', ty, pos, af, gd⟩).run P w = .ok (.value (.bool (decide (b < a)))) w := x_gtr hx hy
theorem xN (hx : ev r x = .int k a := by rfl) (hy : ev r y = .int k b := by rfl) : (execOp (ev r) ⟨dst, .binOp .neq t x y t', ty, pos, af, gd⟩).run P w = .ok (.value (.bool (a != b))) w := x_neq hx hy
theorem xp (c : Int) (hx : ev r x = .int k a := by rfl) (hy : ev r y = .int k b := by rfl) (hc : k.wrap (a + b) = c := by decide) : (execOp (ev r) ⟨dst, .binOp .add t x y t', ty, pos, af, gd⟩).run P w = .ok (.value (.int k c)) w := x_add hx hy hc
theorem xP (hc : k.wrap (a + b) = c) (hx : ev r x = .int k a := by rfl) (hy : ev r y = .int k b := by rfl) : (execOp (ev r) ⟨dst, .binOp .add t x y t', ty, pos, af, gd⟩).run P w = .ok (.value (.int k c)) w := x_add hx hy hc
theorem xM (hc : k.wrap (a - b) = c) (hx : ev r x = .int k a := by rfl) (hy : ev r y = .int k b := by rfl) : (execOp (ev r) ⟨dst, .binOp .sub t x y t', ty, pos, af, gd⟩).run P w = .ok (.value (.int k c)) w := x_sub hx hy hc
theorem xX (hc : k.wrap (a * b) = c) (hx : ev r x = .int k a := by rfl) (hy : ev r y = .int k b := by rfl) : (execOp (ev r) ⟨dst, .binOp .mul t x y t', ty, pos, af, gd⟩).run P w = .ok (.value (.int k c)) w := x_mul hx hy hc
end
section
variable {P : Program} {n : Nat} {Q : Post} {r : Regs} {w : World}
theorem Wr {id : Nat} {l : List Oper} {y : Code} (h : RL P l.toArray n l (fun r w => W P n y Q r w) r w) : W P n (.seq (.region id l.toArray false) y) Q r w := W_seq (W_region h)
theorem Wc {c : Operand} {x y : Code} {t : Bool} (ht : t = true → W P n x Q r w) (hf : t = false → W P n y Q r w) (hc : ev r c = .bool t := by rfl) : W P n (.cond c x y) Q r w := W_cond hc ht hf
theorem Wt {c : Operand} {x y : Code} (h : W P n x Q r w) (hc : ev r c = .bool true := by first | rfl | decide) : W P n (.cond c x y) Q r w := W_cond hc (fun _ => h) (fun hb => by cases hb)
theorem Wf {c : Operand} {x y : Code} (h : W P n y Q r w) (hc : ev r c = .bool false := by first | rfl | decide) : W P n (.cond c x y) Q r w := W_cond hc (fun hb => by cases hb) (fun _ => h)
end
end Go.Proofs.YtobkigllalbkiaaV

/- Closed facts of the types of the program, and the models of its structs. Written by program. -/
set_option linter.unusedVariables false
namespace Go.Proofs.YtobkigllalbkiaaV.D
open Go.RowKit Go.Proofs.YtobkigllalbkiaaV
def kI_u8 : Kd Int := Kd.flat 1 (fun x => [.int .u8 x]) (fun _ => rfl) (fun x v hv => by simp at hv; subst hv; rfl)
structure S_Vec where
  X : Int
  Y : Int
  Z : Int
def k_Vec : Kd S_Vec := Kd.flat 3 (fun x => [.int .i64 x.X, .int .i64 x.Y, .int .i64 x.Z]) (fun _ => rfl) (fun x v hv => by simp at hv; rcases hv with rfl | rfl | rfl <;> rfl)
structure Ar2 (α : Type) where
  a0 : α
  a1 : α
def k_Ar2_Int : Kd (Ar2 Int) := Kd.flat 2 (fun x => [.int .i64 x.a0, .int .i64 x.a1]) (fun _ => rfl) (fun x v hv => by simp at hv; rcases hv with rfl | rfl <;> rfl)
structure Ar3 (α : Type) where
  a0 : α
  a1 : α
  a2 : α
def k_Ar3_Int : Kd (Ar3 Int) := Kd.flat 3 (fun x => [.int .i64 x.a0, .int .i64 x.a1, .int .i64 x.a2]) (fun _ => rfl) (fun x v hv => by simp at hv; rcases hv with rfl | rfl | rfl <;> rfl)
structure Ar4 (α : Type) where
  a0 : α
  a1 : α
  a2 : α
  a3 : α
def k_Ar4_Int : Kd (Ar4 Int) := Kd.flat 4 (fun x => [.int .u8 x.a0, .int .u8 x.a1, .int .u8 x.a2, .int .u8 x.a3]) (fun _ => rfl) (fun x v hv => by simp at hv; rcases hv with rfl | rfl | rfl | rfl <;> rfl)
structure S_Look where
  Color : (Ar4 Int)
  Texture : Int
  Cull : Int
  Bias : Int
  Blend : Bool
  Bin : Int
def k_Look : Kd S_Look := Kd.flat 9 (fun x => [.int .u8 x.Color.a0, .int .u8 x.Color.a1, .int .u8 x.Color.a2, .int .u8 x.Color.a3, .int .i64 x.Texture, .int .u8 x.Cull, .int .i64 x.Bias, .bool x.Blend, .int .i64 x.Bin]) (fun _ => rfl) (fun x v hv => by simp at hv; rcases hv with rfl | rfl | rfl | rfl | rfl | rfl | rfl | rfl | rfl <;> rfl)
structure S_Box where
  Low : S_Vec
  High : S_Vec
def k_Box : Kd S_Box := Kd.flat 6 (fun x => [.int .i64 x.Low.X, .int .i64 x.Low.Y, .int .i64 x.Low.Z, .int .i64 x.High.X, .int .i64 x.High.Y, .int .i64 x.High.Z]) (fun _ => rfl) (fun x v hv => by simp at hv; rcases hv with rfl | rfl | rfl | rfl | rfl | rfl <;> rfl)
structure S_Item where
  Verts : (List S_Vec)
  UV : (List (Ar2 Int))
  Tris : (List (Ar3 Int))
  Look : S_Look
  Box : S_Box
def k_Item : Kd S_Item where
  sz := 18
  rel := fun w ok cs x => ∃ (A0 : Option Addr) (c0 : Nat), ∃ (A1 : Option Addr) (c1 : Nat), ∃ (A2 : Option Addr) (c2 : Nat), cs = [.slice A0 x.Verts.length c0, .slice A1 x.UV.length c1, .slice A2 x.Tris.length c2, .int .u8 x.Look.Color.a0, .int .u8 x.Look.Color.a1, .int .u8 x.Look.Color.a2, .int .u8 x.Look.Color.a3, .int .i64 x.Look.Texture, .int .u8 x.Look.Cull, .int .i64 x.Look.Bias, .bool x.Look.Blend, .int .i64 x.Look.Bin, .int .i64 x.Box.Low.X, .int .i64 x.Box.Low.Y, .int .i64 x.Box.Low.Z, .int .i64 x.Box.High.X, .int .i64 x.Box.High.Y, .int .i64 x.Box.High.Z] ∧ Rd k_Vec w ok A0 c0 x.Verts ∧ Rd k_Ar2_Int w ok A1 c1 x.UV ∧ Rd k_Ar3_Int w ok A2 c2 x.Tris
  len := by rintro w ok cs x ⟨A0, c0, A1, c1, A2, c2, rfl, h0, h1, h2⟩; rfl
  one := by
    rintro w ok cs x ⟨A0, c0, A1, c1, A2, c2, rfl, h0, h1, h2⟩ v hv
    simp at hv
    rcases hv with rfl | rfl | rfl | rfl | rfl | rfl | rfl | rfl | rfl | rfl | rfl | rfl | rfl | rfl | rfl | rfl | rfl | rfl <;> rfl
  keep := by rintro w w' ok ok' cs x ⟨A0, c0, A1, c1, A2, c2, rfl, h0, h1, h2⟩ hm; exact ⟨A0, c0, A1, c1, A2, c2, rfl, h0.keep hm, h1.keep hm, h2.keep hm⟩
structure S_Texture where
  W : Int
  H : Int
  Texels : (List (Ar4 Int))
def k_Texture : Kd S_Texture where
  sz := 3
  rel := fun w ok cs x => ∃ (A0 : Option Addr) (c0 : Nat), cs = [.int .i64 x.W, .int .i64 x.H, .slice A0 x.Texels.length c0] ∧ Rd k_Ar4_Int w ok A0 c0 x.Texels
  len := by rintro w ok cs x ⟨A0, c0, rfl, h0⟩; rfl
  one := by
    rintro w ok cs x ⟨A0, c0, rfl, h0⟩ v hv
    simp at hv
    rcases hv with rfl | rfl | rfl <;> rfl
  keep := by rintro w w' ok ok' cs x ⟨A0, c0, rfl, h0⟩ hm; exact ⟨A0, c0, rfl, h0.keep hm⟩
structure S_Show where
  Items : (List S_Item)
  Textures : (List S_Texture)
def k_Show : Kd S_Show where
  sz := 2
  rel := fun w ok cs x => ∃ (A0 : Option Addr) (c0 : Nat), ∃ (A1 : Option Addr) (c1 : Nat), cs = [.slice A0 x.Items.length c0, .slice A1 x.Textures.length c1] ∧ Rd k_Item w ok A0 c0 x.Items ∧ Rd k_Texture w ok A1 c1 x.Textures
  len := by rintro w ok cs x ⟨A0, c0, A1, c1, rfl, h0, h1⟩; rfl
  one := by
    rintro w ok cs x ⟨A0, c0, A1, c1, rfl, h0, h1⟩ v hv
    simp at hv
    rcases hv with rfl | rfl <;> rfl
  keep := by rintro w w' ok ok' cs x ⟨A0, c0, A1, c1, rfl, h0, h1⟩ hm; exact ⟨A0, c0, A1, c1, rfl, h0.keep hm, h1.keep hm⟩
def k_Ar3_Ar3Int : Kd (Ar3 (Ar3 Int)) := Kd.flat 9 (fun x => [.int .i64 x.a0.a0, .int .i64 x.a0.a1, .int .i64 x.a0.a2, .int .i64 x.a1.a0, .int .i64 x.a1.a1, .int .i64 x.a1.a2, .int .i64 x.a2.a0, .int .i64 x.a2.a1, .int .i64 x.a2.a2]) (fun _ => rfl) (fun x v hv => by simp at hv; rcases hv with rfl | rfl | rfl | rfl | rfl | rfl | rfl | rfl | rfl <;> rfl)
structure S_Camera where
  Pos : S_Vec
  M : (Ar3 (Ar3 Int))
  Focal : Int
  Near : Int
  W : Int
  H : Int
def k_Camera : Kd S_Camera := Kd.flat 16 (fun x => [.int .i64 x.Pos.X, .int .i64 x.Pos.Y, .int .i64 x.Pos.Z, .int .i64 x.M.a0.a0, .int .i64 x.M.a0.a1, .int .i64 x.M.a0.a2, .int .i64 x.M.a1.a0, .int .i64 x.M.a1.a1, .int .i64 x.M.a1.a2, .int .i64 x.M.a2.a0, .int .i64 x.M.a2.a1, .int .i64 x.M.a2.a2, .int .i64 x.Focal, .int .i64 x.Near, .int .i64 x.W, .int .i64 x.H]) (fun _ => rfl) (fun x v hv => by simp at hv; rcases hv with rfl | rfl | rfl | rfl | rfl | rfl | rfl | rfl | rfl | rfl | rfl | rfl | rfl | rfl | rfl | rfl <;> rfl)
structure S_Rect where
  X0 : Int
  Y0 : Int
  X1 : Int
  Y1 : Int
def k_Rect : Kd S_Rect := Kd.flat 4 (fun x => [.int .i64 x.X0, .int .i64 x.Y0, .int .i64 x.X1, .int .i64 x.Y1]) (fun _ => rfl) (fun x v hv => by simp at hv; rcases hv with rfl | rfl | rfl | rfl <;> rfl)
structure S_Frag where
  D : Int
  Item : Int
  Tri : Int
  Part : Int
  U : Int
  V : Int
def k_Frag : Kd S_Frag := Kd.flat 6 (fun x => [.int .i64 x.D, .int .i64 x.Item, .int .i64 x.Tri, .int .i64 x.Part, .int .i64 x.U, .int .i64 x.V]) (fun _ => rfl) (fun x v hv => by simp at hv; rcases hv with rfl | rfl | rfl | rfl | rfl | rfl <;> rfl)
structure S_Shade where
  Rect : S_Rect
  D : Int
def k_Shade : Kd S_Shade := Kd.flat 5 (fun x => [.int .i64 x.Rect.X0, .int .i64 x.Rect.Y0, .int .i64 x.Rect.X1, .int .i64 x.Rect.Y1, .int .i64 x.D]) (fun _ => rfl) (fun x v hv => by simp at hv; rcases hv with rfl | rfl | rfl | rfl | rfl <;> rfl)
structure S_Spot where
  X : Int
  Y : Int
  D : Int
  U : Int
  V : Int
def k_Spot : Kd S_Spot := Kd.flat 5 (fun x => [.int .i64 x.X, .int .i64 x.Y, .int .i64 x.D, .int .i64 x.U, .int .i64 x.V]) (fun _ => rfl) (fun x v hv => by simp at hv; rcases hv with rfl | rfl | rfl | rfl | rfl <;> rfl)
def k_Ar3_S_Spot : Kd (Ar3 S_Spot) := Kd.flat 15 (fun x => [.int .i64 x.a0.X, .int .i64 x.a0.Y, .int .i64 x.a0.D, .int .i64 x.a0.U, .int .i64 x.a0.V, .int .i64 x.a1.X, .int .i64 x.a1.Y, .int .i64 x.a1.D, .int .i64 x.a1.U, .int .i64 x.a1.V, .int .i64 x.a2.X, .int .i64 x.a2.Y, .int .i64 x.a2.D, .int .i64 x.a2.U, .int .i64 x.a2.V]) (fun _ => rfl) (fun x v hv => by simp at hv; rcases hv with rfl | rfl | rfl | rfl | rfl | rfl | rfl | rfl | rfl | rfl | rfl | rfl | rfl | rfl | rfl <;> rfl)
structure S_part where
  t : (Ar3 S_Spot)
  frag : S_Frag
def k_part : Kd S_part := Kd.flat 21 (fun x => [.int .i64 x.t.a0.X, .int .i64 x.t.a0.Y, .int .i64 x.t.a0.D, .int .i64 x.t.a0.U, .int .i64 x.t.a0.V, .int .i64 x.t.a1.X, .int .i64 x.t.a1.Y, .int .i64 x.t.a1.D, .int .i64 x.t.a1.U, .int .i64 x.t.a1.V, .int .i64 x.t.a2.X, .int .i64 x.t.a2.Y, .int .i64 x.t.a2.D, .int .i64 x.t.a2.U, .int .i64 x.t.a2.V, .int .i64 x.frag.D, .int .i64 x.frag.Item, .int .i64 x.frag.Tri, .int .i64 x.frag.Part, .int .i64 x.frag.U, .int .i64 x.frag.V]) (fun _ => rfl) (fun x v hv => by simp at hv; rcases hv with rfl | rfl | rfl | rfl | rfl | rfl | rfl | rfl | rfl | rfl | rfl | rfl | rfl | rfl | rfl | rfl | rfl | rfl | rfl | rfl | rfl <;> rfl)
structure S_scene where
  Show : S_Show
  parts : (List S_part)
def k_scene : Kd S_scene where
  sz := 3
  rel := fun w ok cs x => ∃ (A0 : Option Addr) (c0 : Nat), ∃ (A1 : Option Addr) (c1 : Nat), ∃ (A2 : Option Addr) (c2 : Nat), cs = [.slice A0 x.Show.Items.length c0, .slice A1 x.Show.Textures.length c1, .slice A2 x.parts.length c2] ∧ Rd k_Item w ok A0 c0 x.Show.Items ∧ Rd k_Texture w ok A1 c1 x.Show.Textures ∧ Rd k_part w ok A2 c2 x.parts
  len := by rintro w ok cs x ⟨A0, c0, A1, c1, A2, c2, rfl, h0, h1, h2⟩; rfl
  one := by
    rintro w ok cs x ⟨A0, c0, A1, c1, A2, c2, rfl, h0, h1, h2⟩ v hv
    simp at hv
    rcases hv with rfl | rfl | rfl <;> rfl
  keep := by rintro w w' ok ok' cs x ⟨A0, c0, A1, c1, A2, c2, rfl, h0, h1, h2⟩ hm; exact ⟨A0, c0, A1, c1, A2, c2, rfl, h0.keep hm, h1.keep hm, h2.keep hm⟩
structure S_way where
  grows : Int
  middle : Int
  near : Int
  far : Int
def k_way : Kd S_way := Kd.flat 4 (fun x => [.int .i64 x.grows, .int .i64 x.middle, .int .i64 x.near, .int .i64 x.far]) (fun _ => rfl) (fun x v hv => by simp at hv; rcases hv with rfl | rfl | rfl | rfl <;> rfl)
structure S_Span where
  Low : Int
  High : Int
def k_Span : Kd S_Span := Kd.flat 2 (fun x => [.int .i64 x.Low, .int .i64 x.High]) (fun _ => rfl) (fun x v hv => by simp at hv; rcases hv with rfl | rfl <;> rfl)
def k_Ar3_S_Span : Kd (Ar3 S_Span) := Kd.flat 6 (fun x => [.int .i64 x.a0.Low, .int .i64 x.a0.High, .int .i64 x.a1.Low, .int .i64 x.a1.High, .int .i64 x.a2.Low, .int .i64 x.a2.High]) (fun _ => rfl) (fun x v hv => by simp at hv; rcases hv with rfl | rfl | rfl | rfl | rfl | rfl <;> rfl)
structure S_Point where
  P : S_Vec
  U : Int
  V : Int
def k_Point : Kd S_Point := Kd.flat 5 (fun x => [.int .i64 x.P.X, .int .i64 x.P.Y, .int .i64 x.P.Z, .int .i64 x.U, .int .i64 x.V]) (fun _ => rfl) (fun x v hv => by simp at hv; rcases hv with rfl | rfl | rfl | rfl | rfl <;> rfl)
def k_Ar3_S_Point : Kd (Ar3 S_Point) := Kd.flat 15 (fun x => [.int .i64 x.a0.P.X, .int .i64 x.a0.P.Y, .int .i64 x.a0.P.Z, .int .i64 x.a0.U, .int .i64 x.a0.V, .int .i64 x.a1.P.X, .int .i64 x.a1.P.Y, .int .i64 x.a1.P.Z, .int .i64 x.a1.U, .int .i64 x.a1.V, .int .i64 x.a2.P.X, .int .i64 x.a2.P.Y, .int .i64 x.a2.P.Z, .int .i64 x.a2.U, .int .i64 x.a2.V]) (fun _ => rfl) (fun x v hv => by simp at hv; rcases hv with rfl | rfl | rfl | rfl | rfl | rfl | rfl | rfl | rfl | rfl | rfl | rfl | rfl | rfl | rfl <;> rfl)
theorem ag109 : aggSz Tryd.prog 109 = some 2 := by kernel_rfl
theorem ag110 : aggSz Tryd.prog 110 = some 6 := by kernel_rfl
theorem ag124 : aggSz Tryd.prog 124 = some 5 := by kernel_rfl
theorem ag125 : aggSz Tryd.prog 125 = some 15 := by kernel_rfl
theorem ag163 : aggSz Tryd.prog 163 = some 4 := by kernel_rfl
theorem ag25 : aggSz Tryd.prog 25 = some 2 := by kernel_rfl
theorem ag27 : aggSz Tryd.prog 27 = some 3 := by kernel_rfl
theorem ag28 : aggSz Tryd.prog 28 = some 3 := by kernel_rfl
theorem ag29 : aggSz Tryd.prog 29 = some 9 := by kernel_rfl
theorem ag31 : aggSz Tryd.prog 31 = some 16 := by kernel_rfl
theorem ag33 : aggSz Tryd.prog 33 = some 4 := by kernel_rfl
theorem ag48 : aggSz Tryd.prog 48 = some 9 := by kernel_rfl
theorem ag50 : aggSz Tryd.prog 50 = some 6 := by kernel_rfl
theorem ag52 : aggSz Tryd.prog 52 = some 18 := by kernel_rfl
theorem ag54 : aggSz Tryd.prog 54 = some 6 := by kernel_rfl
theorem ag56 : aggSz Tryd.prog 56 = some 5 := by kernel_rfl
theorem ag64 : aggSz Tryd.prog 64 = some 3 := by kernel_rfl
theorem ag67 : aggSz Tryd.prog 67 = some 3 := by kernel_rfl
theorem ag77 : aggSz Tryd.prog 77 = some 4 := by kernel_rfl
theorem ag86 : aggSz Tryd.prog 86 = some 5 := by kernel_rfl
theorem ag87 : aggSz Tryd.prog 87 = some 15 := by kernel_rfl
theorem ag89 : aggSz Tryd.prog 89 = some 21 := by kernel_rfl
theorem ar110 : arrOf Tryd.prog 110 = some (3, 109) := by kernel_rfl
theorem ar125 : arrOf Tryd.prog 125 = some (3, 124) := by kernel_rfl
theorem ar128 : arrOf Tryd.prog 128 = some (2, 3) := by kernel_rfl
theorem ar163 : arrOf Tryd.prog 163 = some (4, 3) := by kernel_rfl
theorem ar28 : arrOf Tryd.prog 28 = some (3, 3) := by kernel_rfl
theorem ar29 : arrOf Tryd.prog 29 = some (3, 28) := by kernel_rfl
theorem ar87 : arrOf Tryd.prog 87 = some (3, 86) := by kernel_rfl
theorem by124 : bytesOf Tryd.prog 124 = some 40 := by kernel_rfl
theorem by125 : bytesOf Tryd.prog 125 = some 120 := by kernel_rfl
theorem by128 : bytesOf Tryd.prog 128 = some 16 := by kernel_rfl
theorem by54 : bytesOf Tryd.prog 54 = some 48 := by kernel_rfl
theorem by87 : bytesOf Tryd.prog 87 = some 120 := by kernel_rfl
theorem by89 : bytesOf Tryd.prog 89 = some 168 := by kernel_rfl
theorem cf10 (args : Array Value) (w : World) : (callFunc 10 args).run Tryd.prog w = .ok (.enter 10 args) w := run_enter Tryd.func10 rfl (by kernel_rfl) args w
theorem cf11 (args : Array Value) (w : World) : (callFunc 11 args).run Tryd.prog w = .ok (.enter 11 args) w := run_enter Tryd.func11 rfl (by kernel_rfl) args w
theorem cf12 (args : Array Value) (w : World) : (callFunc 12 args).run Tryd.prog w = .ok (.enter 12 args) w := run_enter Tryd.func12 rfl (by kernel_rfl) args w
theorem cf13 (args : Array Value) (w : World) : (callFunc 13 args).run Tryd.prog w = .ok (.enter 13 args) w := run_enter Tryd.func13 rfl (by kernel_rfl) args w
theorem cf14 (args : Array Value) (w : World) : (callFunc 14 args).run Tryd.prog w = .ok (.enter 14 args) w := run_enter Tryd.func14 rfl (by kernel_rfl) args w
theorem cf15 (args : Array Value) (w : World) : (callFunc 15 args).run Tryd.prog w = .ok (.enter 15 args) w := run_enter Tryd.func15 rfl (by kernel_rfl) args w
theorem cf16 (args : Array Value) (w : World) : (callFunc 16 args).run Tryd.prog w = .ok (.enter 16 args) w := run_enter Tryd.func16 rfl (by kernel_rfl) args w
theorem cf17 (args : Array Value) (w : World) : (callFunc 17 args).run Tryd.prog w = .ok (.enter 17 args) w := run_enter Tryd.func17 rfl (by kernel_rfl) args w
theorem cf18 (args : Array Value) (w : World) : (callFunc 18 args).run Tryd.prog w = .ok (.enter 18 args) w := run_enter Tryd.func18 rfl (by kernel_rfl) args w
theorem cf19 (args : Array Value) (w : World) : (callFunc 19 args).run Tryd.prog w = .ok (.enter 19 args) w := run_enter Tryd.func19 rfl (by kernel_rfl) args w
theorem cf20 (args : Array Value) (w : World) : (callFunc 20 args).run Tryd.prog w = .ok (.enter 20 args) w := run_enter Tryd.func20 rfl (by kernel_rfl) args w
theorem cf21 (args : Array Value) (w : World) : (callFunc 21 args).run Tryd.prog w = .ok (.enter 21 args) w := run_enter Tryd.func21 rfl (by kernel_rfl) args w
theorem cf22 (args : Array Value) (w : World) : (callFunc 22 args).run Tryd.prog w = .ok (.enter 22 args) w := run_enter Tryd.func22 rfl (by kernel_rfl) args w
theorem cf23 (args : Array Value) (w : World) : (callFunc 23 args).run Tryd.prog w = .ok (.enter 23 args) w := run_enter Tryd.func23 rfl (by kernel_rfl) args w
theorem cf24 (args : Array Value) (w : World) : (callFunc 24 args).run Tryd.prog w = .ok (.enter 24 args) w := run_enter Tryd.func24 rfl (by kernel_rfl) args w
theorem cf25 (args : Array Value) (w : World) : (callFunc 25 args).run Tryd.prog w = .ok (.enter 25 args) w := run_enter Tryd.func25 rfl (by kernel_rfl) args w
theorem cf26 (args : Array Value) (w : World) : (callFunc 26 args).run Tryd.prog w = .ok (.enter 26 args) w := run_enter Tryd.func26 rfl (by kernel_rfl) args w
theorem cf27 (args : Array Value) (w : World) : (callFunc 27 args).run Tryd.prog w = .ok (.enter 27 args) w := run_enter Tryd.func27 rfl (by kernel_rfl) args w
theorem cf28 (args : Array Value) (w : World) : (callFunc 28 args).run Tryd.prog w = .ok (.enter 28 args) w := run_enter Tryd.func28 rfl (by kernel_rfl) args w
theorem cf29 (args : Array Value) (w : World) : (callFunc 29 args).run Tryd.prog w = .ok (.enter 29 args) w := run_enter Tryd.func29 rfl (by kernel_rfl) args w
theorem cf30 (args : Array Value) (w : World) : (callFunc 30 args).run Tryd.prog w = .ok (.enter 30 args) w := run_enter Tryd.func30 rfl (by kernel_rfl) args w
theorem cf31 (args : Array Value) (w : World) : (callFunc 31 args).run Tryd.prog w = .ok (.enter 31 args) w := run_enter Tryd.func31 rfl (by kernel_rfl) args w
theorem cf32 (args : Array Value) (w : World) : (callFunc 32 args).run Tryd.prog w = .ok (.enter 32 args) w := run_enter Tryd.func32 rfl (by kernel_rfl) args w
theorem cf33 (args : Array Value) (w : World) : (callFunc 33 args).run Tryd.prog w = .ok (.enter 33 args) w := run_enter Tryd.func33 rfl (by kernel_rfl) args w
theorem cf34 (args : Array Value) (w : World) : (callFunc 34 args).run Tryd.prog w = .ok (.enter 34 args) w := run_enter Tryd.func34 rfl (by kernel_rfl) args w
theorem cf35 (args : Array Value) (w : World) : (callFunc 35 args).run Tryd.prog w = .ok (.enter 35 args) w := run_enter Tryd.func35 rfl (by kernel_rfl) args w
theorem cf36 (args : Array Value) (w : World) : (callFunc 36 args).run Tryd.prog w = .ok (.enter 36 args) w := run_enter Tryd.func36 rfl (by kernel_rfl) args w
theorem cf37 (args : Array Value) (w : World) : (callFunc 37 args).run Tryd.prog w = .ok (.enter 37 args) w := run_enter Tryd.func37 rfl (by kernel_rfl) args w
theorem cf38 (args : Array Value) (w : World) : (callFunc 38 args).run Tryd.prog w = .ok (.enter 38 args) w := run_enter Tryd.func38 rfl (by kernel_rfl) args w
theorem cf39 (args : Array Value) (w : World) : (callFunc 39 args).run Tryd.prog w = .ok (.enter 39 args) w := run_enter Tryd.func39 rfl (by kernel_rfl) args w
theorem cf4 (args : Array Value) (w : World) : (callFunc 4 args).run Tryd.prog w = .ok (.enter 4 args) w := run_enter Tryd.func4 rfl (by kernel_rfl) args w
theorem cf40 (args : Array Value) (w : World) : (callFunc 40 args).run Tryd.prog w = .ok (.enter 40 args) w := run_enter Tryd.func40 rfl (by kernel_rfl) args w
theorem cf41 (args : Array Value) (w : World) : (callFunc 41 args).run Tryd.prog w = .ok (.enter 41 args) w := run_enter Tryd.func41 rfl (by kernel_rfl) args w
theorem cf42 (args : Array Value) (w : World) : (callFunc 42 args).run Tryd.prog w = .ok (.enter 42 args) w := run_enter Tryd.func42 rfl (by kernel_rfl) args w
theorem cf43 (args : Array Value) (w : World) : (callFunc 43 args).run Tryd.prog w = .ok (.enter 43 args) w := run_enter Tryd.func43 rfl (by kernel_rfl) args w
theorem cf44 (args : Array Value) (w : World) : (callFunc 44 args).run Tryd.prog w = .ok (.enter 44 args) w := run_enter Tryd.func44 rfl (by kernel_rfl) args w
theorem cf45 (args : Array Value) (w : World) : (callFunc 45 args).run Tryd.prog w = .ok (.enter 45 args) w := run_enter Tryd.func45 rfl (by kernel_rfl) args w
theorem cf46 (args : Array Value) (w : World) : (callFunc 46 args).run Tryd.prog w = .ok (.enter 46 args) w := run_enter Tryd.func46 rfl (by kernel_rfl) args w
theorem cf47 (args : Array Value) (w : World) : (callFunc 47 args).run Tryd.prog w = .ok (.enter 47 args) w := run_enter Tryd.func47 rfl (by kernel_rfl) args w
theorem cf48 (args : Array Value) (w : World) : (callFunc 48 args).run Tryd.prog w = .ok (.enter 48 args) w := run_enter Tryd.func48 rfl (by kernel_rfl) args w
theorem cf49 (args : Array Value) (w : World) : (callFunc 49 args).run Tryd.prog w = .ok (.enter 49 args) w := run_enter Tryd.func49 rfl (by kernel_rfl) args w
theorem cf5 (args : Array Value) (w : World) : (callFunc 5 args).run Tryd.prog w = .ok (.enter 5 args) w := run_enter Tryd.func5 rfl (by kernel_rfl) args w
theorem cf50 (args : Array Value) (w : World) : (callFunc 50 args).run Tryd.prog w = .ok (.enter 50 args) w := run_enter Tryd.func50 rfl (by kernel_rfl) args w
theorem cf51 (args : Array Value) (w : World) : (callFunc 51 args).run Tryd.prog w = .ok (.enter 51 args) w := run_enter Tryd.func51 rfl (by kernel_rfl) args w
theorem cf52 (args : Array Value) (w : World) : (callFunc 52 args).run Tryd.prog w = .ok (.enter 52 args) w := run_enter Tryd.func52 rfl (by kernel_rfl) args w
theorem cf53 (args : Array Value) (w : World) : (callFunc 53 args).run Tryd.prog w = .ok (.enter 53 args) w := run_enter Tryd.func53 rfl (by kernel_rfl) args w
theorem cf54 (args : Array Value) (w : World) : (callFunc 54 args).run Tryd.prog w = .ok (.enter 54 args) w := run_enter Tryd.func54 rfl (by kernel_rfl) args w
theorem cf55 (args : Array Value) (w : World) : (callFunc 55 args).run Tryd.prog w = .ok (.enter 55 args) w := run_enter Tryd.func55 rfl (by kernel_rfl) args w
theorem cf56 (args : Array Value) (w : World) : (callFunc 56 args).run Tryd.prog w = .ok (.enter 56 args) w := run_enter Tryd.func56 rfl (by kernel_rfl) args w
theorem cf57 (args : Array Value) (w : World) : (callFunc 57 args).run Tryd.prog w = .ok (.enter 57 args) w := run_enter Tryd.func57 rfl (by kernel_rfl) args w
theorem cf58 (args : Array Value) (w : World) : (callFunc 58 args).run Tryd.prog w = .ok (.enter 58 args) w := run_enter Tryd.func58 rfl (by kernel_rfl) args w
theorem cf59 (args : Array Value) (w : World) : (callFunc 59 args).run Tryd.prog w = .ok (.enter 59 args) w := run_enter Tryd.func59 rfl (by kernel_rfl) args w
theorem cf6 (args : Array Value) (w : World) : (callFunc 6 args).run Tryd.prog w = .ok (.enter 6 args) w := run_enter Tryd.func6 rfl (by kernel_rfl) args w
theorem cf60 (args : Array Value) (w : World) : (callFunc 60 args).run Tryd.prog w = .ok (.enter 60 args) w := run_enter Tryd.func60 rfl (by kernel_rfl) args w
theorem cf61 (args : Array Value) (w : World) : (callFunc 61 args).run Tryd.prog w = .ok (.enter 61 args) w := run_enter Tryd.func61 rfl (by kernel_rfl) args w
theorem cf62 (args : Array Value) (w : World) : (callFunc 62 args).run Tryd.prog w = .ok (.enter 62 args) w := run_enter Tryd.func62 rfl (by kernel_rfl) args w
theorem cf63 (args : Array Value) (w : World) : (callFunc 63 args).run Tryd.prog w = .ok (.enter 63 args) w := run_enter Tryd.func63 rfl (by kernel_rfl) args w
theorem cf64 (args : Array Value) (w : World) : (callFunc 64 args).run Tryd.prog w = .ok (.enter 64 args) w := run_enter Tryd.func64 rfl (by kernel_rfl) args w
theorem cf65 (args : Array Value) (w : World) : (callFunc 65 args).run Tryd.prog w = .ok (.enter 65 args) w := run_enter Tryd.func65 rfl (by kernel_rfl) args w
theorem cf66 (args : Array Value) (w : World) : (callFunc 66 args).run Tryd.prog w = .ok (.enter 66 args) w := run_enter Tryd.func66 rfl (by kernel_rfl) args w
theorem cf67 (args : Array Value) (w : World) : (callFunc 67 args).run Tryd.prog w = .ok (.enter 67 args) w := run_enter Tryd.func67 rfl (by kernel_rfl) args w
theorem cf68 (args : Array Value) (w : World) : (callFunc 68 args).run Tryd.prog w = .ok (.enter 68 args) w := run_enter Tryd.func68 rfl (by kernel_rfl) args w
theorem cf69 (args : Array Value) (w : World) : (callFunc 69 args).run Tryd.prog w = .ok (.enter 69 args) w := run_enter Tryd.func69 rfl (by kernel_rfl) args w
theorem cf7 (args : Array Value) (w : World) : (callFunc 7 args).run Tryd.prog w = .ok (.enter 7 args) w := run_enter Tryd.func7 rfl (by kernel_rfl) args w
theorem cf70 (args : Array Value) (w : World) : (callFunc 70 args).run Tryd.prog w = .ok (.enter 70 args) w := run_enter Tryd.func70 rfl (by kernel_rfl) args w
theorem cf71 (args : Array Value) (w : World) : (callFunc 71 args).run Tryd.prog w = .ok (.enter 71 args) w := run_enter Tryd.func71 rfl (by kernel_rfl) args w
theorem cf72 (args : Array Value) (w : World) : (callFunc 72 args).run Tryd.prog w = .ok (.enter 72 args) w := run_enter Tryd.func72 rfl (by kernel_rfl) args w
theorem cf73 (args : Array Value) (w : World) : (callFunc 73 args).run Tryd.prog w = .ok (.enter 73 args) w := run_enter Tryd.func73 rfl (by kernel_rfl) args w
theorem cf74 (args : Array Value) (w : World) : (callFunc 74 args).run Tryd.prog w = .ok (.enter 74 args) w := run_enter Tryd.func74 rfl (by kernel_rfl) args w
theorem cf75 (args : Array Value) (w : World) : (callFunc 75 args).run Tryd.prog w = .ok (.enter 75 args) w := run_enter Tryd.func75 rfl (by kernel_rfl) args w
theorem cf76 (args : Array Value) (w : World) : (callFunc 76 args).run Tryd.prog w = .ok (.enter 76 args) w := run_enter Tryd.func76 rfl (by kernel_rfl) args w
theorem cf77 (args : Array Value) (w : World) : (callFunc 77 args).run Tryd.prog w = .ok (.enter 77 args) w := run_enter Tryd.func77 rfl (by kernel_rfl) args w
theorem cf78 (args : Array Value) (w : World) : (callFunc 78 args).run Tryd.prog w = .ok (.enter 78 args) w := run_enter Tryd.func78 rfl (by kernel_rfl) args w
theorem cf79 (args : Array Value) (w : World) : (callFunc 79 args).run Tryd.prog w = .ok (.enter 79 args) w := run_enter Tryd.func79 rfl (by kernel_rfl) args w
theorem cf8 (args : Array Value) (w : World) : (callFunc 8 args).run Tryd.prog w = .ok (.enter 8 args) w := run_enter Tryd.func8 rfl (by kernel_rfl) args w
theorem cf80 (args : Array Value) (w : World) : (callFunc 80 args).run Tryd.prog w = .ok (.enter 80 args) w := run_enter Tryd.func80 rfl (by kernel_rfl) args w
theorem cf81 (args : Array Value) (w : World) : (callFunc 81 args).run Tryd.prog w = .ok (.enter 81 args) w := run_enter Tryd.func81 rfl (by kernel_rfl) args w
theorem cf82 (args : Array Value) (w : World) : (callFunc 82 args).run Tryd.prog w = .ok (.enter 82 args) w := run_enter Tryd.func82 rfl (by kernel_rfl) args w
theorem cf9 (args : Array Value) (w : World) : (callFunc 9 args).run Tryd.prog w = .ok (.enter 9 args) w := run_enter Tryd.func9 rfl (by kernel_rfl) args w
theorem ep50 : structOf2 Tryd.prog 50 = some [([(.int .i64, 0), (.int .i64, 1), (.int .i64, 2)], 0, 3), ([(.int .i64, 0), (.int .i64, 1), (.int .i64, 2)], 3, 3)] := by kernel_rfl
theorem eg50 : (Tryd.prog).eqGuardType (Tryd.prog).depth 50 = false := by kernel_rfl
theorem fo109_0 : fieldOff Tryd.prog 109 0 = some 0 := by kernel_rfl
theorem fo109_1 : fieldOff Tryd.prog 109 1 = some 1 := by kernel_rfl
theorem fo124_0 : fieldOff Tryd.prog 124 0 = some 0 := by kernel_rfl
theorem fo124_1 : fieldOff Tryd.prog 124 1 = some 3 := by kernel_rfl
theorem fo124_2 : fieldOff Tryd.prog 124 2 = some 4 := by kernel_rfl
theorem fo25_0 : fieldOff Tryd.prog 25 0 = some 0 := by kernel_rfl
theorem fo25_1 : fieldOff Tryd.prog 25 1 = some 1 := by kernel_rfl
theorem fo27_0 : fieldOff Tryd.prog 27 0 = some 0 := by kernel_rfl
theorem fo27_1 : fieldOff Tryd.prog 27 1 = some 1 := by kernel_rfl
theorem fo27_2 : fieldOff Tryd.prog 27 2 = some 2 := by kernel_rfl
theorem fo31_0 : fieldOff Tryd.prog 31 0 = some 0 := by kernel_rfl
theorem fo31_1 : fieldOff Tryd.prog 31 1 = some 3 := by kernel_rfl
theorem fo31_2 : fieldOff Tryd.prog 31 2 = some 12 := by kernel_rfl
theorem fo31_3 : fieldOff Tryd.prog 31 3 = some 13 := by kernel_rfl
theorem fo31_4 : fieldOff Tryd.prog 31 4 = some 14 := by kernel_rfl
theorem fo31_5 : fieldOff Tryd.prog 31 5 = some 15 := by kernel_rfl
theorem fo33_0 : fieldOff Tryd.prog 33 0 = some 0 := by kernel_rfl
theorem fo33_1 : fieldOff Tryd.prog 33 1 = some 1 := by kernel_rfl
theorem fo33_2 : fieldOff Tryd.prog 33 2 = some 2 := by kernel_rfl
theorem fo33_3 : fieldOff Tryd.prog 33 3 = some 3 := by kernel_rfl
theorem fo48_1 : fieldOff Tryd.prog 48 1 = some 4 := by kernel_rfl
theorem fo48_2 : fieldOff Tryd.prog 48 2 = some 5 := by kernel_rfl
theorem fo48_3 : fieldOff Tryd.prog 48 3 = some 6 := by kernel_rfl
theorem fo48_4 : fieldOff Tryd.prog 48 4 = some 7 := by kernel_rfl
theorem fo48_5 : fieldOff Tryd.prog 48 5 = some 8 := by kernel_rfl
theorem fo50_0 : fieldOff Tryd.prog 50 0 = some 0 := by kernel_rfl
theorem fo50_1 : fieldOff Tryd.prog 50 1 = some 3 := by kernel_rfl
theorem fo52_0 : fieldOff Tryd.prog 52 0 = some 0 := by kernel_rfl
theorem fo52_1 : fieldOff Tryd.prog 52 1 = some 1 := by kernel_rfl
theorem fo52_2 : fieldOff Tryd.prog 52 2 = some 2 := by kernel_rfl
theorem fo52_3 : fieldOff Tryd.prog 52 3 = some 3 := by kernel_rfl
theorem fo52_4 : fieldOff Tryd.prog 52 4 = some 12 := by kernel_rfl
theorem fo54_0 : fieldOff Tryd.prog 54 0 = some 0 := by kernel_rfl
theorem fo54_1 : fieldOff Tryd.prog 54 1 = some 1 := by kernel_rfl
theorem fo54_2 : fieldOff Tryd.prog 54 2 = some 2 := by kernel_rfl
theorem fo54_3 : fieldOff Tryd.prog 54 3 = some 3 := by kernel_rfl
theorem fo54_4 : fieldOff Tryd.prog 54 4 = some 4 := by kernel_rfl
theorem fo54_5 : fieldOff Tryd.prog 54 5 = some 5 := by kernel_rfl
theorem fo56_0 : fieldOff Tryd.prog 56 0 = some 0 := by kernel_rfl
theorem fo56_1 : fieldOff Tryd.prog 56 1 = some 4 := by kernel_rfl
theorem fo64_0 : fieldOff Tryd.prog 64 0 = some 0 := by kernel_rfl
theorem fo64_1 : fieldOff Tryd.prog 64 1 = some 1 := by kernel_rfl
theorem fo64_2 : fieldOff Tryd.prog 64 2 = some 2 := by kernel_rfl
theorem fo67_0 : fieldOff Tryd.prog 67 0 = some 0 := by kernel_rfl
theorem fo67_1 : fieldOff Tryd.prog 67 1 = some 2 := by kernel_rfl
theorem fo77_0 : fieldOff Tryd.prog 77 0 = some 0 := by kernel_rfl
theorem fo77_1 : fieldOff Tryd.prog 77 1 = some 1 := by kernel_rfl
theorem fo77_2 : fieldOff Tryd.prog 77 2 = some 2 := by kernel_rfl
theorem fo77_3 : fieldOff Tryd.prog 77 3 = some 3 := by kernel_rfl
theorem fo86_0 : fieldOff Tryd.prog 86 0 = some 0 := by kernel_rfl
theorem fo86_1 : fieldOff Tryd.prog 86 1 = some 1 := by kernel_rfl
theorem fo86_2 : fieldOff Tryd.prog 86 2 = some 2 := by kernel_rfl
theorem fo86_3 : fieldOff Tryd.prog 86 3 = some 3 := by kernel_rfl
theorem fo86_4 : fieldOff Tryd.prog 86 4 = some 4 := by kernel_rfl
theorem fo89_0 : fieldOff Tryd.prog 89 0 = some 0 := by kernel_rfl
theorem fo89_1 : fieldOff Tryd.prog 89 1 = some 15 := by kernel_rfl
theorem mixed0 : Tryd.prog.follows .mixedOrders = true := by kernel_rfl
theorem sc145 : scal Tryd.prog 145 = true := by kernel_rfl
theorem sc22 : scal Tryd.prog 22 = true := by kernel_rfl
theorem sc23 : scal Tryd.prog 23 = true := by kernel_rfl
theorem sc3 : scal Tryd.prog 3 = true := by kernel_rfl
theorem sc36 : scal Tryd.prog 36 = true := by kernel_rfl
theorem sc4 : scal Tryd.prog 4 = true := by kernel_rfl
theorem sc42 : scal Tryd.prog 42 = true := by kernel_rfl
theorem sc43 : scal Tryd.prog 43 = true := by kernel_rfl
theorem sc44 : scal Tryd.prog 44 = true := by kernel_rfl
theorem sc5 : scal Tryd.prog 5 = true := by kernel_rfl
theorem sc62 : scal Tryd.prog 62 = true := by kernel_rfl
theorem sc65 : scal Tryd.prog 65 = true := by kernel_rfl
theorem sl101 : slElem Tryd.prog 101 = some 87 := by kernel_rfl
theorem sl129 : slElem Tryd.prog 129 = some 125 := by kernel_rfl
theorem sl141 : slElem Tryd.prog 141 = some 3 := by kernel_rfl
theorem sl146 : slElem Tryd.prog 146 = some 145 := by kernel_rfl
theorem sl153 : slElem Tryd.prog 153 = some 124 := by kernel_rfl
theorem sl22 : slElem Tryd.prog 22 = some 52 := by kernel_rfl
theorem sl23 : slElem Tryd.prog 23 = some 64 := by kernel_rfl
theorem sl36 : slElem Tryd.prog 36 = some 54 := by kernel_rfl
theorem sl42 : slElem Tryd.prog 42 = some 27 := by kernel_rfl
theorem sl43 : slElem Tryd.prog 43 = some 128 := by kernel_rfl
theorem sl44 : slElem Tryd.prog 44 = some 28 := by kernel_rfl
theorem sl62 : slElem Tryd.prog 62 = some 46 := by kernel_rfl
theorem sl65 : slElem Tryd.prog 65 = some 89 := by kernel_rfl
theorem sz109 : szOf Tryd.prog 109 = some 2 := by kernel_rfl
theorem sz110 : szOf Tryd.prog 110 = some 6 := by kernel_rfl
theorem sz124 : szOf Tryd.prog 124 = some 5 := by kernel_rfl
theorem sz125 : szOf Tryd.prog 125 = some 15 := by kernel_rfl
theorem sz128 : szOf Tryd.prog 128 = some 2 := by kernel_rfl
theorem sz145 : szOf Tryd.prog 145 = some 1 := by kernel_rfl
theorem sz163 : szOf Tryd.prog 163 = some 4 := by kernel_rfl
theorem sz25 : szOf Tryd.prog 25 = some 2 := by kernel_rfl
theorem sz27 : szOf Tryd.prog 27 = some 3 := by kernel_rfl
theorem sz28 : szOf Tryd.prog 28 = some 3 := by kernel_rfl
theorem sz3 : szOf Tryd.prog 3 = some 1 := by kernel_rfl
theorem sz31 : szOf Tryd.prog 31 = some 16 := by kernel_rfl
theorem sz36 : szOf Tryd.prog 36 = some 1 := by kernel_rfl
theorem sz4 : szOf Tryd.prog 4 = some 1 := by kernel_rfl
theorem sz50 : szOf Tryd.prog 50 = some 6 := by kernel_rfl
theorem sz52 : szOf Tryd.prog 52 = some 18 := by kernel_rfl
theorem sz54 : szOf Tryd.prog 54 = some 6 := by kernel_rfl
theorem sz56 : szOf Tryd.prog 56 = some 5 := by kernel_rfl
theorem sz64 : szOf Tryd.prog 64 = some 3 := by kernel_rfl
theorem sz65 : szOf Tryd.prog 65 = some 1 := by kernel_rfl
theorem sz67 : szOf Tryd.prog 67 = some 3 := by kernel_rfl
theorem sz77 : szOf Tryd.prog 77 = some 4 := by kernel_rfl
theorem sz86 : szOf Tryd.prog 86 = some 5 := by kernel_rfl
theorem sz87 : szOf Tryd.prog 87 = some 15 := by kernel_rfl
theorem sz89 : szOf Tryd.prog 89 = some 21 := by kernel_rfl
theorem un4 : Tryd.prog.underlying 4 = some .bool := by kernel_rfl
theorem ze109 : zeroOf Tryd.prog 109 = some (.agg #[.int .i64 0, .int .i64 0]) := by kernel_rfl
theorem ze110 : zeroOf Tryd.prog 110 = some (.agg #[.int .i64 0, .int .i64 0, .int .i64 0, .int .i64 0, .int .i64 0, .int .i64 0]) := by kernel_rfl
theorem ze124 : zeroOf Tryd.prog 124 = some (.agg #[.int .i64 0, .int .i64 0, .int .i64 0, .int .i64 0, .int .i64 0]) := by kernel_rfl
theorem ze125 : zeroOf Tryd.prog 125 = some (.agg #[.int .i64 0, .int .i64 0, .int .i64 0, .int .i64 0, .int .i64 0, .int .i64 0, .int .i64 0, .int .i64 0, .int .i64 0, .int .i64 0, .int .i64 0, .int .i64 0, .int .i64 0, .int .i64 0, .int .i64 0]) := by kernel_rfl
theorem ze128 : zeroOf Tryd.prog 128 = some (.agg #[.int .i64 0, .int .i64 0]) := by kernel_rfl
theorem ze163 : zeroOf Tryd.prog 163 = some (.agg #[.int .i64 0, .int .i64 0, .int .i64 0, .int .i64 0]) := by kernel_rfl
theorem ze25 : zeroOf Tryd.prog 25 = some (.agg #[.slice none 0 0, .slice none 0 0]) := by kernel_rfl
theorem ze27 : zeroOf Tryd.prog 27 = some (.agg #[.int .i64 0, .int .i64 0, .int .i64 0]) := by kernel_rfl
theorem ze28 : zeroOf Tryd.prog 28 = some (.agg #[.int .i64 0, .int .i64 0, .int .i64 0]) := by kernel_rfl
theorem ze3 : zeroOf Tryd.prog 3 = some (.int .i64 0) := by kernel_rfl
theorem ze31 : zeroOf Tryd.prog 31 = some (.agg #[.int .i64 0, .int .i64 0, .int .i64 0, .int .i64 0, .int .i64 0, .int .i64 0, .int .i64 0, .int .i64 0, .int .i64 0, .int .i64 0, .int .i64 0, .int .i64 0, .int .i64 0, .int .i64 0, .int .i64 0, .int .i64 0]) := by kernel_rfl
theorem ze36 : zeroOf Tryd.prog 36 = some (.slice none 0 0) := by kernel_rfl
theorem ze4 : zeroOf Tryd.prog 4 = some (.bool false) := by kernel_rfl
theorem ze50 : zeroOf Tryd.prog 50 = some (.agg #[.int .i64 0, .int .i64 0, .int .i64 0, .int .i64 0, .int .i64 0, .int .i64 0]) := by kernel_rfl
theorem ze52 : zeroOf Tryd.prog 52 = some (.agg #[.slice none 0 0, .slice none 0 0, .slice none 0 0, .int .u8 0, .int .u8 0, .int .u8 0, .int .u8 0, .int .i64 0, .int .u8 0, .int .i64 0, .bool false, .int .i64 0, .int .i64 0, .int .i64 0, .int .i64 0, .int .i64 0, .int .i64 0, .int .i64 0]) := by kernel_rfl
theorem ze54 : zeroOf Tryd.prog 54 = some (.agg #[.int .i64 0, .int .i64 0, .int .i64 0, .int .i64 0, .int .i64 0, .int .i64 0]) := by kernel_rfl
theorem ze56 : zeroOf Tryd.prog 56 = some (.agg #[.int .i64 0, .int .i64 0, .int .i64 0, .int .i64 0, .int .i64 0]) := by kernel_rfl
theorem ze64 : zeroOf Tryd.prog 64 = some (.agg #[.int .i64 0, .int .i64 0, .slice none 0 0]) := by kernel_rfl
theorem ze67 : zeroOf Tryd.prog 67 = some (.agg #[.slice none 0 0, .slice none 0 0, .slice none 0 0]) := by kernel_rfl
theorem ze77 : zeroOf Tryd.prog 77 = some (.agg #[.int .i64 0, .int .i64 0, .int .i64 0, .int .i64 0]) := by kernel_rfl
theorem ze86 : zeroOf Tryd.prog 86 = some (.agg #[.int .i64 0, .int .i64 0, .int .i64 0, .int .i64 0, .int .i64 0]) := by kernel_rfl
theorem ze87 : zeroOf Tryd.prog 87 = some (.agg #[.int .i64 0, .int .i64 0, .int .i64 0, .int .i64 0, .int .i64 0, .int .i64 0, .int .i64 0, .int .i64 0, .int .i64 0, .int .i64 0, .int .i64 0, .int .i64 0, .int .i64 0, .int .i64 0, .int .i64 0]) := by kernel_rfl
theorem ze89 : zeroOf Tryd.prog 89 = some (.agg #[.int .i64 0, .int .i64 0, .int .i64 0, .int .i64 0, .int .i64 0, .int .i64 0, .int .i64 0, .int .i64 0, .int .i64 0, .int .i64 0, .int .i64 0, .int .i64 0, .int .i64 0, .int .i64 0, .int .i64 0, .int .i64 0, .int .i64 0, .int .i64 0, .int .i64 0, .int .i64 0, .int .i64 0]) := by kernel_rfl
theorem zf145 : zeroOf Tryd.prog 145 = some .nilFunc := by kernel_rfl
end Go.Proofs.YtobkigllalbkiaaV.D

/- A plain Lean function that answers as the Go function does (none: not told), and the proof that a call answers so. Written by program. -/
set_option linter.unusedVariables false
set_option maxRecDepth 100000
set_option maxHeartbeats 4000000
namespace Go.Proofs.YtobkigllalbkiaaV.D
open Go.RowKit Go.Proofs.YtobkigllalbkiaaV
def m15 (K : Nat) (a0 : Int) (a1 : Int) (a2 : Int) : Option (Bool) :=
 ((bif (decide (a1 ≤ a0)) then some (decide (a0 ≤ a2)) else some false).bind fun b1 => some b1)
theorem c15 (ok : Okp) (K : Nat) (w : World) (a0 : Int) (a1 : Int) (a2 : Int)  (res : Bool) (hm : m15 K a0 a1 a2 = some res) :
  Calls Tryd.prog 15 #[ii a0, ii a1, ii a2] w (fun e w' => e = .returned (tup [.bool res]) ∧ Sep ok w w' [] []) := by
 refine calls_W (args := [ii a0, ii a1, ii a2]) Tryd.func15 rfl Tryd.ntmps15 Tryd.results15 rfl fun r hr => ?_
 obtain ⟨r1, rfl⟩ := regen (r := r) [(0, ii a0), (1, ii a1), (2, ii a2)] ⟨hr 0 _ rfl, hr 1 _ rfl, hr 2 _ rfl, trivial⟩
 have H : Sep ok w w [] [] := Sep.start ok w
 unfold m15 at hm
 refine Wr ?_
 refine RL_p (xa (.bool false)) ?_
 refine Wr ?_
 refine RL_p (xm (ii a0)) ?_
 refine RL_p (xm (ii a1)) ?_
 refine RL_p (x_geq (by rfl) (by rfl)) ?_
 refine RL_p (xm (.bool (decide (a1 ≤ a0)))) ?_
 obtain ⟨b1, hmS, hm⟩ := bind_some hm
 refine RL_cut 4 (fun r' w' => Agr [(14, .bool b1)] r' ∧ Sep ok w w' [] []) ?_ ?_
 ·cases hbS : (decide (a1 ≤ a0))
  ·have hm := cond_f hbS hmS
   refine RO ?_
   refine RO ?_
   refine RO ?_
   refine RL_p (xF (.bool false)) ?_
   refine RL_nil ?_
   exact ⟨⟨congrArg Value.bool (Option.some.inj hm), trivial⟩, H⟩
  have hm := cond_t hbS hmS
  refine RQ (xm (ii a0)) ?_
  refine RQ (xm (ii a2)) ?_
  refine RQ (x_leq (by rfl) (by rfl)) ?_
  refine RL_p (xT (.bool (decide (a0 ≤ a2)))) ?_
  refine RL_nil ?_
  exact ⟨⟨congrArg Value.bool (Option.some.inj hm), trivial⟩, H⟩
 rintro r' w' ⟨hA, H⟩
 obtain ⟨r2, rfl⟩ := regen _ hA; clear hA
 obtain ⟨w3, rfl⟩ := wld w'
 refine RL_p (xa (.bool b1)) ?_
 refine W_ret ?_
 obtain rfl := Option.some.inj hm
 exact ⟨[.bool b1], (.tmp (by rfl) rfl), rfl, H.none_⟩
end Go.Proofs.YtobkigllalbkiaaV.D

/- A plain Lean function that answers as the Go function does (none: not told), and the proof that a call answers so. Written by program. -/
set_option linter.unusedVariables false
set_option maxRecDepth 100000
set_option maxHeartbeats 4000000
namespace Go.Proofs.YtobkigllalbkiaaV.D
open Go.RowKit Go.Proofs.YtobkigllalbkiaaV
def m36_l1b (K : Nat) (a0 : Int) (a1 : (List Int)) (rec1 : Int → Option (Bool)) (y9_1 : Int) : Option (Bool) :=
 (bif (decide (y9_1 < (a1.length : Int))) then (idx a1 y9_1 fun el7 => (ck (0 - a0) fun x14 => ((bif (decide (el7 < x14)) then some true else some (decide (a0 < el7))).bind fun b15 => (bif b15 then some false else (ck (y9_1 + 1) fun x18 => (rec1 x18)))))) else some true)
def m36_l1 (K : Nat) (a0 : Int) (a1 : (List Int)) : Nat → Int → Option (Bool)
 | 0 => fun _ => none
 | k + 1 => m36_l1b K a0 a1 (m36_l1 K a0 a1 k)
def m36 (K : Nat) (a0 : Int) (a1 : (List Int)) : Option (Bool) :=
 m36_l1 K a0 a1 K 0
theorem c36 (ok : Okp) (K : Nat) (w : World) (a0 : Int) (a1 : (List Int)) (A1 : Option Addr) (cp2 : Nat) (hR3 : Rd kInt w ok A1 cp2 a1) (res : Bool) (hm : m36 K a0 a1 = some res) :
  Calls Tryd.prog 36 #[ii a0, .slice A1 a1.length cp2] w (fun e w' => e = .returned (tup [.bool res]) ∧ Sep ok w w' [] []) := by
 refine calls_W (args := [ii a0, .slice A1 a1.length cp2]) Tryd.func36 rfl Tryd.ntmps36 Tryd.results36 rfl fun r hr => ?_
 obtain ⟨r1, rfl⟩ := regen (r := r) [(0, ii a0), (1, .slice A1 a1.length cp2)] ⟨hr 0 _ rfl, hr 1 _ rfl, trivial⟩
 have H : Sep ok w w [] [RE.rd kInt A1 cp2 a1] := Sep.arg (Sep.start ok w) (re := RE.rd kInt A1 cp2 a1) rfl rfl hR3
 unfold m36 at hm
 refine Wr ?_
 refine RL_p (xa (.bool false)) ?_
 refine W_seq ?_
 refine Wr ?_
 refine RL_p (xm (.slice A1 a1.length cp2)) ?_
 refine RL_p (x_len sl141 (by rfl)) ?_
 refine RL_p (xm (ii 0)) ?_
 refine W_block ?_
 refine W_loop (fun k1 r' w' => ∃ (y9_1 : Int), m36_l1 K a0 a1 k1 y9_1 = some res ∧ Agr [(0, ii a0), (7, .slice A1 a1.length cp2), (8, ii (a1.length : Int)), (9, ii y9_1)] r' ∧ Sep ok w w' [] [RE.rd kInt A1 cp2 a1]) K ?_ ?_
 ·exact ⟨0, hm, ⟨rfl, rfl, rfl, rfl, trivial⟩, H⟩
 rintro k1 r' w' ⟨y9_1, hm, hA, H⟩
 obtain ⟨r5, rfl⟩ := regen _ hA; clear hA
 obtain ⟨w6, rfl⟩ := wld w'
 cases k1 with
 | zero => exact (none_some hm).elim
 | succ k1 =>
  have hm : m36_l1b K a0 a1 (m36_l1 K a0 a1 k1) y9_1 = some res := hm
  unfold m36_l1b at hm
  obtain ⟨rec1, hrec1⟩ : ∃ f, m36_l1 K a0 a1 k1 = f := ⟨_, rfl⟩
  rw [hrec1] at hm
  refine Wr ?_
  refine RL_p (xL) ?_
  refine W_seq ?_
  refine Wc (fun hb => ?_) (fun hb => ?_)
  ·have hm := cond_t hb hm
   refine W_skip ?_
   refine W_seq ?_
   refine W_block ?_
   refine Wr ?_
   obtain ⟨el7, h8, h9, he10, hm⟩ := idx_some hm
   obtain ⟨g12, o13, hA11⟩ := (H.rd (i := 0) (by rfl)).addr he10
   refine RL_p (x_indexAddr sl141 sz3 (by rfl) (by rfl) hA11 h8 h9) ?_
   refine RL_p (xl 0 (ii el7) sc3 (Rd.flatAt (n := 1) (H.rd (i := 0) (by rfl)) hA11 he10)) ?_
   refine RL_p (xa (ii el7)) ?_
   refine Wr ?_
   refine RL_p (xm (ii el7)) ?_
   refine RL_p (xm (ii a0)) ?_
   obtain ⟨x14, ex14, qx14, ux14, hm⟩ := ck_some hm
   refine RL_p (x_neg (by rfl) ux14) ?_
   refine RL_p (xL) ?_
   refine RL_p (xm (.bool (decide (el7 < x14)))) ?_
   obtain ⟨b15, hmS, hm⟩ := bind_some hm
   refine RL_cut 4 (fun r' w' => Agr [(21, .bool b15), (0, ii a0), (7, .slice A1 a1.length cp2), (8, ii (a1.length : Int)), (9, ii y9_1)] r' ∧ Sep ok w w' [] [RE.rd kInt A1 cp2 a1]) ?_ ?_
   ·cases hbS : (decide (el7 < x14))
    ·have hm := cond_f hbS hmS
     refine RQ (xm (ii el7)) ?_
     refine RQ (xm (ii a0)) ?_
     refine RQ (xG) ?_
     refine RL_p (xF (.bool (decide (a0 < el7)))) ?_
     refine RL_nil ?_
     exact ⟨⟨congrArg Value.bool (Option.some.inj hm), rfl, rfl, rfl, rfl, trivial⟩, H⟩
    have hm := cond_t hbS hmS
    refine RO ?_
    refine RO ?_
    refine RO ?_
    refine RL_p (xT (.bool true)) ?_
    refine RL_nil ?_
    exact ⟨⟨congrArg Value.bool (Option.some.inj hm), rfl, rfl, rfl, rfl, trivial⟩, H⟩
   rintro r' w' ⟨hA, H⟩
   obtain ⟨r16, rfl⟩ := regen _ hA; clear hA
   obtain ⟨w17, rfl⟩ := wld w'
   show RL _ _ _ _ _ _ _
   refine Wc (fun hb => ?_) (fun hb => ?_)
   ·have hm := cond_t hb hm
    refine Wr ?_
    refine RL_p (xa (.bool false)) ?_
    refine W_ret ?_
    obtain rfl := Option.some.inj hm
    exact ⟨[.bool false], (.tmp (by rfl) rfl), rfl, H.none_⟩
   have hm := cond_f hb hm
   refine W_skip ?_
   refine W_region ?_
   obtain ⟨x18, ex18, qx18, ux18, hm⟩ := ck_some hm
   refine RL_p (xP ux18) ?_
   refine RL_p (xm (ii x18)) ?_
   refine RL_nil ?_
   subst hrec1
   exact ⟨k1, Nat.lt_succ_self k1, x18, hm, ⟨rfl, rfl, rfl, rfl, trivial⟩, H⟩
  have hm := cond_f hb hm
  refine W_exit ?_
  refine Wr ?_
  refine RL_p (xa (.bool true)) ?_
  refine W_ret ?_
  obtain rfl := Option.some.inj hm
  exact ⟨[.bool true], (.tmp (by rfl) rfl), rfl, H.none_⟩
end Go.Proofs.YtobkigllalbkiaaV.D

/- A plain Lean function that answers as the Go function does (none: not told), and the proof that a call answers so. Written by program. -/
set_option linter.unusedVariables false
set_option maxRecDepth 100000
set_option maxHeartbeats 4000000
namespace Go.Proofs.YtobkigllalbkiaaV.D
open Go.RowKit Go.Proofs.YtobkigllalbkiaaV
abbrev L23_0 (q0 : S_Vec) : List Value := [ii q0.X, ii q0.Y, ii q0.Z]
def m23 (K : Nat) (a0 : S_Vec) : Option (Int) :=
 ((m36 K 4096 ([a0.X, a0.Y, a0.Z])).bind fun v8 => (bif (!v8) then some 20 else some 0))
abbrev S23_0 (q0 : Okp) (q1 q2 : World) (q3 : Nat) (q4 : S_Vec) (q5 : Nat) : Prop := Sep q0 q1 q2 [.blk q3 27 (L23_0 q4), .row (.slice (some ⟨q5, 0, none⟩) ([q4.X, q4.Y, q4.Z]).length 3) 3 kInt.sz ([q4.X, q4.Y, q4.Z]).length [ii q4.X, ii q4.Y, ii q4.Z]] [RE.chunks kInt [ii q4.X, ii q4.Y, ii q4.Z] ([q4.X, q4.Y, q4.Z])]
theorem c23 (ok : Okp) (K : Nat) (w : World) (a0 : S_Vec)  (res : Int) (hm : m23 K a0 = some res) :
  Calls Tryd.prog 23 #[.agg (L23_0 a0).toArray] w (fun e w' => e = .returned (tup [ii res]) ∧ Sep ok w w' [] []) := by
 refine calls_W (args := [.agg (L23_0 a0).toArray]) Tryd.func23 rfl Tryd.ntmps23 Tryd.results23 rfl fun r hr => ?_
 obtain ⟨r1, rfl⟩ := regen (r := r) [(0, .agg (L23_0 a0).toArray)] ⟨hr 0 _ rfl, trivial⟩
 have H : Sep ok w w [] [] := Sep.start ok w
 unfold m23 at hm
 refine Wr ?_
 refine RL_cons (OB H (fun w2 b1 (H : Sep ok w w2 [.blk b1 27 (L23_0 a0)] []) => ?_))
 refine RL_p (xa (ii 0)) ?_
 refine W_seq ?_
 refine Wr ?_
 refine RL_p (xf fo27_0) ?_
 refine RL_p (xl 0 (ii a0.X) sc3 (H.c 0)) ?_
 refine RL_p (xf fo27_1) ?_
 refine RL_p (xl 1 (ii a0.Y) sc3 (H.c 0)) ?_
 refine RL_p (xf fo27_2) ?_
 refine RL_p (xl 2 (ii a0.Z) sc3 (H.c 0)) ?_
 refine RL_cons (O_buildSlice (vs := [(0, ii a0.X), (1, ii a0.Y), (2, ii a0.Z)]) (cs := [ii a0.X, ii a0.Y, ii a0.Z]) (by exact wn0 rfl) (by rfl) sl141 sz3 ze3 (by rfl) (by rfl) (by rfl) (by kernel_rfl) H (fun w4 b3 (H : Sep ok w w4 [.blk b1 27 (L23_0 a0), .blk b3 3 (L23_0 a0)] []) => ?_))
 have H : S23_0 ok w w4 b1 a0 b3 := H.rowOf (i := 1) (D := kInt) (xs := [a0.X, a0.Y, a0.Z]) (by rfl) (by exact ⟨rfl, rfl, rfl, rfl⟩) (by rfl)
 obtain ⟨v8, hv7, hm⟩ := bind_some hm
 refine RL_cons (OC (xc [ii 4096, .slice (some ⟨b3, 0, none⟩) ([a0.X, a0.Y, a0.Z]).length 3] (cf36 _ _)) (c36 okT K w4 4096 ([a0.X, a0.Y, a0.Z]) (some ⟨b3, 0, none⟩) 3 (H.rowRd (i := 1) (j := 0) (by rfl) (by rfl)) v8 hv7) ?_)
 rintro e w9 ⟨rfl, H2⟩
 have H : S23_0 ok w w9 b1 a0 b3 := H.below H2.base
 clear H2
 refine ⟨_, rfl, ?_⟩
 refine RL_p (x_not (by rfl)) ?_
 refine Wc (fun hb => ?_) (fun hb => ?_)
 ·have hm := cond_t hb hm
  refine W_seq ?_
  have H : Sep ok w w9 [] [] := ((H.takeL 0).pick [])
  refine W_region ?_
  refine RL_p (xa (ii 20)) ?_
  refine W_ret ?_
  obtain rfl := Option.some.inj hm
  exact ⟨[ii 20], (.tmp (by rfl) rfl), rfl, H.none_⟩
 have hm := cond_f hb hm
 refine W_skip ?_
 refine W_seq ?_
 have H : Sep ok w w9 [] [] := ((H.takeL 0).pick [])
 refine W_region ?_
 refine RL_p (xa (ii 0)) ?_
 refine W_ret ?_
 obtain rfl := Option.some.inj hm
 exact ⟨[ii 0], (.tmp (by rfl) rfl), rfl, H.none_⟩
end Go.Proofs.YtobkigllalbkiaaV.D

/- A plain Lean function that answers as the Go function does (none: not told), and the proof that a call answers so. Written by program. -/
set_option linter.unusedVariables false
set_option maxRecDepth 100000
set_option maxHeartbeats 4000000
namespace Go.Proofs.YtobkigllalbkiaaV.D
open Go.RowKit Go.Proofs.YtobkigllalbkiaaV
abbrev L14_0 (q0 : S_Camera) : List Value := [ii q0.Pos.X, ii q0.Pos.Y, ii q0.Pos.Z, ii q0.M.a0.a0, ii q0.M.a0.a1, ii q0.M.a0.a2, ii q0.M.a1.a0, ii q0.M.a1.a1, ii q0.M.a1.a2, ii q0.M.a2.a0, ii q0.M.a2.a1, ii q0.M.a2.a2, ii q0.Focal, ii q0.Near, ii q0.W, ii q0.H]
abbrev L14_1 (q0 : S_Camera) : List Value := [ii q0.Pos.X, ii q0.Pos.Y, ii q0.Pos.Z]
abbrev L14_2 (q0 : S_Camera) : List Value := [ii q0.M.a0.a0, ii q0.M.a0.a1, ii q0.M.a0.a2, ii q0.M.a1.a0, ii q0.M.a1.a1, ii q0.M.a1.a2, ii q0.M.a2.a0, ii q0.M.a2.a1, ii q0.M.a2.a2]
abbrev L14_3 (q0 : S_Camera) : List Value := [ii q0.M.a0.a0, ii q0.M.a0.a1, ii q0.M.a0.a2]
abbrev L14_4 (q0 : S_Camera) : List Value := [ii q0.M.a1.a0, ii q0.M.a1.a1, ii q0.M.a1.a2]
abbrev L14_5 (q0 : S_Camera) : List Value := [ii q0.M.a2.a0, ii q0.M.a2.a1, ii q0.M.a2.a2]
def m14 (K : Nat) (a0 : S_Camera) : Option (Int) :=
 ((m23 K a0.Pos).bind fun v4 => ((bif (v4 == 0) then ((m15 K a0.Focal 1 64).bind fun v8 => some v8) else some false).bind fun b6 => ((bif b6 then ((m15 K a0.Near 256 4096).bind fun v14 => some v14) else some false).bind fun b12 => ((bif b12 then ((m15 K a0.W 1 64).bind fun v20 => some v20) else some false).bind fun b18 => ((bif b18 then ((m15 K a0.H 1 64).bind fun v26 => some v26) else some false).bind fun b24 => ((bif b24 then ((m15 K a0.M.a0.a0 (-256) 256).bind fun v35 => some v35) else some false).bind fun b33 => ((bif b33 then ((m15 K a0.M.a0.a1 (-256) 256).bind fun v41 => some v41) else some false).bind fun b39 => ((bif b39 then ((m15 K a0.M.a0.a2 (-256) 256).bind fun v47 => some v47) else some false).bind fun b45 => ((bif b45 then ((m15 K a0.M.a1.a0 (-256) 256).bind fun v56 => some v56) else some false).bind fun b54 => ((bif b54 then ((m15 K a0.M.a1.a1 (-256) 256).bind fun v62 => some v62) else some false).bind fun b60 => ((bif b60 then ((m15 K a0.M.a1.a2 (-256) 256).bind fun v68 => some v68) else some false).bind fun b66 => ((bif b66 then ((m15 K a0.M.a2.a0 (-256) 256).bind fun v77 => some v77) else some false).bind fun b75 => ((bif b75 then ((m15 K a0.M.a2.a1 (-256) 256).bind fun v83 => some v83) else some false).bind fun b81 => ((bif b81 then ((m15 K a0.M.a2.a2 (-256) 256).bind fun v89 => some v89) else some false).bind fun b87 => (bif (!b87) then some 150 else some 0)))))))))))))))
abbrev S14_0 (q0 : Okp) (q1 q2 : World) (q3 : Nat) (q4 : S_Camera) : Prop := Sep q0 q1 q2 [.blk q3 31 (L14_0 q4)] []
abbrev S14_1 (q0 : Okp) (q1 q2 : World) (q3 : Nat) (q4 : S_Camera) (q5 : Nat) : Prop := Sep q0 q1 q2 [.blk q3 31 (L14_0 q4), .blk q5 28 (L14_3 q4)] []
abbrev S14_2 (q0 : Okp) (q1 q2 : World) (q3 : Nat) (q4 : S_Camera) : Prop := Sep q0 q1 q2 [.blk q3 28 (L14_5 q4)] []
theorem c14 (ok : Okp) (K : Nat) (w : World) (a0 : S_Camera)  (res : Int) (hm : m14 K a0 = some res) :
  Calls Tryd.prog 14 #[.agg (L14_0 a0).toArray] w (fun e w' => e = .returned (tup [ii res]) ∧ Sep ok w w' [] []) := by
 refine calls_W (args := [.agg (L14_0 a0).toArray]) Tryd.func14 rfl Tryd.ntmps14 Tryd.results14 rfl fun r hr => ?_
 obtain ⟨r1, rfl⟩ := regen (r := r) [(0, .agg (L14_0 a0).toArray)] ⟨hr 0 _ rfl, trivial⟩
 have H : Sep ok w w [] [] := Sep.start ok w
 unfold m14 at hm
 refine Wr ?_
 refine RL_cons (OB H (fun w2 b1 (H : S14_0 ok w w2 b1 a0) => ?_))
 refine RL_p (xa (ii 0)) ?_
 refine Wr ?_
 refine RL_p (xf fo31_0) ?_
 refine RL_p (xA 0 (L14_1 a0) ag27 (H.c 0)) ?_
 obtain ⟨v4, hv3, hm⟩ := bind_some hm
 refine RL_cons (OC (xc [.agg (L14_1 a0).toArray] (cf23 _ _)) (c23 okT K w2 a0.Pos  v4 hv3) ?_)
 rintro e w5 ⟨rfl, H2⟩
 have H : S14_0 ok w w5 b1 a0 := H.below H2.base
 clear H2
 refine ⟨_, rfl, ?_⟩
 refine RL_p (x_eql (by rfl) (by rfl)) ?_
 refine RL_p (xm (.bool (v4 == 0))) ?_
 obtain ⟨b6, hmS, hm⟩ := bind_some hm
 refine RL_cut 4 (fun r' w' => Agr [(16, .bool b6), (1, pp b1)] r' ∧ S14_0 ok w w' b1 a0) ?_ ?_
 ·cases hbS : (v4 == 0)
  ·have hm := cond_f hbS hmS
   refine RO ?_
   refine RO ?_
   refine RO ?_
   refine RL_p (xF (.bool false)) ?_
   refine RL_nil ?_
   exact ⟨⟨congrArg Value.bool (Option.some.inj hm), rfl, trivial⟩, H⟩
  have hm := cond_t hbS hmS
  refine RQ (xf fo31_2) ?_
  refine RQ (xl 12 (ii a0.Focal) sc3 (H.c 0)) ?_
  obtain ⟨v8, hv7, hm⟩ := bind_some hm
  refine RL_cons (O_call (by exact wn1 rfl rfl rfl rfl) (by rfl) (by rfl) (xc [ii a0.Focal, ii 1, ii 64] (cf15 _ _)) (c15 okT K w5 a0.Focal 1 64  v8 hv7) ?_)
  rintro e w9 ⟨rfl, H2⟩
  have H : S14_0 ok w w9 b1 a0 := H.below H2.base
  clear H2
  refine ⟨_, rfl, ?_⟩
  refine RL_p (xT (.bool v8)) ?_
  refine RL_nil ?_
  exact ⟨⟨congrArg Value.bool (Option.some.inj hm), rfl, trivial⟩, H⟩
 rintro r' w' ⟨hA, H⟩
 obtain ⟨r10, rfl⟩ := regen _ hA; clear hA
 obtain ⟨w11, rfl⟩ := wld w'
 refine RL_p (xm (.bool b6)) ?_
 obtain ⟨b12, hmS, hm⟩ := bind_some hm
 refine RL_cut 4 (fun r' w' => Agr [(21, .bool b12), (1, pp b1)] r' ∧ S14_0 ok w w' b1 a0) ?_ ?_
 ·cases hbS : b6
  ·have hm := cond_f hbS hmS
   refine RO ?_
   refine RO ?_
   refine RO ?_
   refine RL_p (xF (.bool false)) ?_
   refine RL_nil ?_
   exact ⟨⟨congrArg Value.bool (Option.some.inj hm), rfl, trivial⟩, H⟩
  have hm := cond_t hbS hmS
  refine RQ (xf fo31_3) ?_
  refine RQ (xl 13 (ii a0.Near) sc3 (H.c 0)) ?_
  obtain ⟨v14, hv13, hm⟩ := bind_some hm
  refine RL_cons (O_call (by exact wn1 rfl rfl rfl rfl) (by rfl) (by rfl) (xc [ii a0.Near, ii 256, ii 4096] (cf15 _ _)) (c15 okT K w11 a0.Near 256 4096  v14 hv13) ?_)
  rintro e w15 ⟨rfl, H2⟩
  have H : S14_0 ok w w15 b1 a0 := H.below H2.base
  clear H2
  refine ⟨_, rfl, ?_⟩
  refine RL_p (xT (.bool v14)) ?_
  refine RL_nil ?_
  exact ⟨⟨congrArg Value.bool (Option.some.inj hm), rfl, trivial⟩, H⟩
 rintro r' w' ⟨hA, H⟩
 obtain ⟨r16, rfl⟩ := regen _ hA; clear hA
 obtain ⟨w17, rfl⟩ := wld w'
 refine RL_p (xm (.bool b12)) ?_
 obtain ⟨b18, hmS, hm⟩ := bind_some hm
 refine RL_cut 4 (fun r' w' => Agr [(26, .bool b18), (1, pp b1)] r' ∧ S14_0 ok w w' b1 a0) ?_ ?_
 ·cases hbS : b12
  ·have hm := cond_f hbS hmS
   refine RO ?_
   refine RO ?_
   refine RO ?_
   refine RL_p (xF (.bool false)) ?_
   refine RL_nil ?_
   exact ⟨⟨congrArg Value.bool (Option.some.inj hm), rfl, trivial⟩, H⟩
  have hm := cond_t hbS hmS
  refine RQ (xf fo31_4) ?_
  refine RQ (xl 14 (ii a0.W) sc3 (H.c 0)) ?_
  obtain ⟨v20, hv19, hm⟩ := bind_some hm
  refine RL_cons (O_call (by exact wn1 rfl rfl rfl rfl) (by rfl) (by rfl) (xc [ii a0.W, ii 1, ii 64] (cf15 _ _)) (c15 okT K w17 a0.W 1 64  v20 hv19) ?_)
  rintro e w21 ⟨rfl, H2⟩
  have H : S14_0 ok w w21 b1 a0 := H.below H2.base
  clear H2
  refine ⟨_, rfl, ?_⟩
  refine RL_p (xT (.bool v20)) ?_
  refine RL_nil ?_
  exact ⟨⟨congrArg Value.bool (Option.some.inj hm), rfl, trivial⟩, H⟩
 rintro r' w' ⟨hA, H⟩
 obtain ⟨r22, rfl⟩ := regen _ hA; clear hA
 obtain ⟨w23, rfl⟩ := wld w'
 refine RL_p (xm (.bool b18)) ?_
 obtain ⟨b24, hmS, hm⟩ := bind_some hm
 refine RL_cut 4 (fun r' w' => Agr [(31, .bool b24), (1, pp b1)] r' ∧ S14_0 ok w w' b1 a0) ?_ ?_
 ·cases hbS : b18
  ·have hm := cond_f hbS hmS
   refine RO ?_
   refine RO ?_
   refine RO ?_
   refine RL_p (xF (.bool false)) ?_
   refine RL_nil ?_
   exact ⟨⟨congrArg Value.bool (Option.some.inj hm), rfl, trivial⟩, H⟩
  have hm := cond_t hbS hmS
  refine RQ (xf fo31_5) ?_
  refine RQ (xl 15 (ii a0.H) sc3 (H.c 0)) ?_
  obtain ⟨v26, hv25, hm⟩ := bind_some hm
  refine RL_cons (O_call (by exact wn1 rfl rfl rfl rfl) (by rfl) (by rfl) (xc [ii a0.H, ii 1, ii 64] (cf15 _ _)) (c15 okT K w23 a0.H 1 64  v26 hv25) ?_)
  rintro e w27 ⟨rfl, H2⟩
  have H : S14_0 ok w w27 b1 a0 := H.below H2.base
  clear H2
  refine ⟨_, rfl, ?_⟩
  refine RL_p (xT (.bool v26)) ?_
  refine RL_nil ?_
  exact ⟨⟨congrArg Value.bool (Option.some.inj hm), rfl, trivial⟩, H⟩
 rintro r' w' ⟨hA, H⟩
 obtain ⟨r28, rfl⟩ := regen _ hA; clear hA
 obtain ⟨w29, rfl⟩ := wld w'
 refine RL_p (xa (.bool b24)) ?_
 refine W_seq ?_
 refine Wr ?_
 refine RL_p (xf fo31_1) ?_
 refine RL_p (xA 3 (L14_2 a0) ag29 (H.c 0)) ?_
 refine RL_p (xm (ii 0)) ?_
 refine W_block ?_
 refine W_unroll 40 ?_
 refine WU_succ ?_
 refine Wr ?_
 refine RL_p (xL) ?_
 refine W_seq ?_
 refine Wt ?_
 refine W_skip ?_
 refine W_seq ?_
 refine W_block ?_
 refine Wr ?_
 refine RL_p (xJ (L14_3 a0) ar29 ag28) ?_
 refine RL_cons (OA ze28 H (fun w31 b30 (H : Sep ok w w31 [.blk b1 31 (L14_0 a0), .blk b30 28 [ii 0, ii 0, ii 0]] []) => ?_))
 refine RL_cons (OS 1 0 (L14_3 a0) sz28 H (fun w32 (H : S14_1 ok w w32 b1 a0 b30) => ?_))
 refine Wr ?_
 refine RL_p (xA 0 (L14_3 a0) ag28 (H.c 1)) ?_
 refine RL_p (xm (ii 0)) ?_
 refine W_block ?_
 refine W_unroll 40 ?_
 refine WU_succ ?_
 refine Wr ?_
 refine RL_p (xL) ?_
 refine W_seq ?_
 refine Wt ?_
 refine W_skip ?_
 refine W_seq ?_
 refine W_block ?_
 refine Wr ?_
 refine RL_p (xi ar28 sz3 sc3) ?_
 refine RL_p (xa (ii a0.M.a0.a0)) ?_
 refine W_region ?_
 refine RL_p (xm (.bool b24)) ?_
 refine RL_p (xm (.bool b24)) ?_
 obtain ⟨b33, hmS, hm⟩ := bind_some hm
 refine RL_cut 3 (fun r' w' => Agr [(45, .bool b33), (33, .agg (L14_2 a0).toArray), (34, ii 0), (37, .agg (L14_3 a0).toArray), (38, ii 0)] r' ∧ S14_1 ok w w' b1 a0 b30) ?_ ?_
 ·cases hbS : b24
  ·have hm := cond_f hbS hmS
   refine RO ?_
   refine RO ?_
   refine RL_p (xF (.bool false)) ?_
   refine RL_nil ?_
   exact ⟨⟨congrArg Value.bool (Option.some.inj hm), rfl, rfl, rfl, rfl, trivial⟩, H⟩
  have hm := cond_t hbS hmS
  refine RQ (xm (ii a0.M.a0.a0)) ?_
  obtain ⟨v35, hv34, hm⟩ := bind_some hm
  refine RL_cons (O_call (by exact wn1 rfl rfl rfl rfl) (by rfl) (by rfl) (xc [ii a0.M.a0.a0, ii (-256), ii 256] (cf15 _ _)) (c15 okT K w32 a0.M.a0.a0 (-256) 256  v35 hv34) ?_)
  rintro e w36 ⟨rfl, H2⟩
  have H : S14_1 ok w w36 b1 a0 b30 := H.below H2.base
  clear H2
  refine ⟨_, rfl, ?_⟩
  refine RL_p (xT (.bool v35)) ?_
  refine RL_nil ?_
  exact ⟨⟨congrArg Value.bool (Option.some.inj hm), rfl, rfl, rfl, rfl, trivial⟩, H⟩
 rintro r' w' ⟨hA, H⟩
 obtain ⟨r37, rfl⟩ := regen _ hA; clear hA
 obtain ⟨w38, rfl⟩ := wld w'
 refine RL_p (xa (.bool b33)) ?_
 refine W_region ?_
 refine RL_p (xp 1) ?_
 refine RL_p (xm (ii 1)) ?_
 refine WU_succ ?_
 refine Wr ?_
 refine RL_p (xL) ?_
 refine W_seq ?_
 refine Wt ?_
 refine W_skip ?_
 refine W_seq ?_
 refine W_block ?_
 refine Wr ?_
 refine RL_p (xi ar28 sz3 sc3) ?_
 refine RL_p (xa (ii a0.M.a0.a1)) ?_
 refine W_region ?_
 refine RL_p (xm (.bool b33)) ?_
 refine RL_p (xm (.bool b33)) ?_
 obtain ⟨b39, hmS, hm⟩ := bind_some hm
 refine RL_cut 3 (fun r' w' => Agr [(45, .bool b39), (33, .agg (L14_2 a0).toArray), (34, ii 0), (37, .agg (L14_3 a0).toArray), (38, ii 1)] r' ∧ S14_1 ok w w' b1 a0 b30) ?_ ?_
 ·cases hbS : b33
  ·have hm := cond_f hbS hmS
   refine RO ?_
   refine RO ?_
   refine RL_p (xF (.bool false)) ?_
   refine RL_nil ?_
   exact ⟨⟨congrArg Value.bool (Option.some.inj hm), rfl, rfl, rfl, rfl, trivial⟩, H⟩
  have hm := cond_t hbS hmS
  refine RQ (xm (ii a0.M.a0.a1)) ?_
  obtain ⟨v41, hv40, hm⟩ := bind_some hm
  refine RL_cons (O_call (by exact wn1 rfl rfl rfl rfl) (by rfl) (by rfl) (xc [ii a0.M.a0.a1, ii (-256), ii 256] (cf15 _ _)) (c15 okT K w38 a0.M.a0.a1 (-256) 256  v41 hv40) ?_)
  rintro e w42 ⟨rfl, H2⟩
  have H : S14_1 ok w w42 b1 a0 b30 := H.below H2.base
  clear H2
  refine ⟨_, rfl, ?_⟩
  refine RL_p (xT (.bool v41)) ?_
  refine RL_nil ?_
  exact ⟨⟨congrArg Value.bool (Option.some.inj hm), rfl, rfl, rfl, rfl, trivial⟩, H⟩
 rintro r' w' ⟨hA, H⟩
 obtain ⟨r43, rfl⟩ := regen _ hA; clear hA
 obtain ⟨w44, rfl⟩ := wld w'
 refine RL_p (xa (.bool b39)) ?_
 refine W_region ?_
 refine RL_p (xp 2) ?_
 refine RL_p (xm (ii 2)) ?_
 refine WU_succ ?_
 refine Wr ?_
 refine RL_p (xL) ?_
 refine W_seq ?_
 refine Wt ?_
 refine W_skip ?_
 refine W_seq ?_
 refine W_block ?_
 refine Wr ?_
 refine RL_p (xi ar28 sz3 sc3) ?_
 refine RL_p (xa (ii a0.M.a0.a2)) ?_
 refine W_region ?_
 refine RL_p (xm (.bool b39)) ?_
 refine RL_p (xm (.bool b39)) ?_
 obtain ⟨b45, hmS, hm⟩ := bind_some hm
 refine RL_cut 3 (fun r' w' => Agr [(45, .bool b45), (33, .agg (L14_2 a0).toArray), (34, ii 0), (37, .agg (L14_3 a0).toArray), (38, ii 2)] r' ∧ S14_1 ok w w' b1 a0 b30) ?_ ?_
 ·cases hbS : b39
  ·have hm := cond_f hbS hmS
   refine RO ?_
   refine RO ?_
   refine RL_p (xF (.bool false)) ?_
   refine RL_nil ?_
   exact ⟨⟨congrArg Value.bool (Option.some.inj hm), rfl, rfl, rfl, rfl, trivial⟩, H⟩
  have hm := cond_t hbS hmS
  refine RQ (xm (ii a0.M.a0.a2)) ?_
  obtain ⟨v47, hv46, hm⟩ := bind_some hm
  refine RL_cons (O_call (by exact wn1 rfl rfl rfl rfl) (by rfl) (by rfl) (xc [ii a0.M.a0.a2, ii (-256), ii 256] (cf15 _ _)) (c15 okT K w44 a0.M.a0.a2 (-256) 256  v47 hv46) ?_)
  rintro e w48 ⟨rfl, H2⟩
  have H : S14_1 ok w w48 b1 a0 b30 := H.below H2.base
  clear H2
  refine ⟨_, rfl, ?_⟩
  refine RL_p (xT (.bool v47)) ?_
  refine RL_nil ?_
  exact ⟨⟨congrArg Value.bool (Option.some.inj hm), rfl, rfl, rfl, rfl, trivial⟩, H⟩
 rintro r' w' ⟨hA, H⟩
 obtain ⟨r49, rfl⟩ := regen _ hA; clear hA
 obtain ⟨w50, rfl⟩ := wld w'
 refine RL_p (xa (.bool b45)) ?_
 refine W_region ?_
 refine RL_p (xp 3) ?_
 refine RL_p (xm (ii 3)) ?_
 refine WU_succ ?_
 refine Wr ?_
 refine RL_p (xL) ?_
 refine W_seq ?_
 refine Wf ?_
 refine W_exit ?_
 refine W_region ?_
 refine RL_p (xp 1) ?_
 refine RL_p (xm (ii 1)) ?_
 refine WU_succ ?_
 refine Wr ?_
 refine RL_p (xL) ?_
 refine W_seq ?_
 refine Wt ?_
 refine W_skip ?_
 refine W_seq ?_
 refine W_block ?_
 refine Wr ?_
 refine RL_p (xJ (L14_4 a0) ar29 ag28) ?_
 refine RL_cons (OA ze28 H (fun w52 b51 (H : Sep ok w w52 [.blk b1 31 (L14_0 a0), .blk b30 28 (L14_3 a0), .blk b51 28 [ii 0, ii 0, ii 0]] []) => ?_))
 refine RL_cons (OS 2 0 (L14_4 a0) sz28 H (fun w53 (H : Sep ok w w53 [.blk b1 31 (L14_0 a0), .blk b30 28 (L14_3 a0), .blk b51 28 (L14_4 a0)] []) => ?_))
 refine Wr ?_
 refine RL_p (xA 0 (L14_4 a0) ag28 (H.c 2)) ?_
 refine RL_p (xm (ii 0)) ?_
 refine W_block ?_
 refine W_unroll 40 ?_
 refine WU_succ ?_
 refine W_seq ?_
 have H : Sep ok w w53 [] [] := (H.takeL 0)
 refine W_region ?_
 refine RL_p (xL) ?_
 refine W_seq ?_
 refine Wt ?_
 refine W_skip ?_
 refine W_seq ?_
 refine W_block ?_
 refine Wr ?_
 refine RL_p (xi ar28 sz3 sc3) ?_
 refine RL_p (xa (ii a0.M.a1.a0)) ?_
 refine W_region ?_
 refine RL_p (xm (.bool b45)) ?_
 refine RL_p (xm (.bool b45)) ?_
 obtain ⟨b54, hmS, hm⟩ := bind_some hm
 refine RL_cut 3 (fun r' w' => Agr [(45, .bool b54), (33, .agg (L14_2 a0).toArray), (34, ii 1), (37, .agg (L14_4 a0).toArray), (38, ii 0)] r' ∧ Sep ok w w' [] []) ?_ ?_
 ·cases hbS : b45
  ·have hm := cond_f hbS hmS
   refine RO ?_
   refine RO ?_
   refine RL_p (xF (.bool false)) ?_
   refine RL_nil ?_
   exact ⟨⟨congrArg Value.bool (Option.some.inj hm), rfl, rfl, rfl, rfl, trivial⟩, H⟩
  have hm := cond_t hbS hmS
  refine RQ (xm (ii a0.M.a1.a0)) ?_
  obtain ⟨v56, hv55, hm⟩ := bind_some hm
  refine RL_cons (O_call (by exact wn1 rfl rfl rfl rfl) (by rfl) (by rfl) (xc [ii a0.M.a1.a0, ii (-256), ii 256] (cf15 _ _)) (c15 okT K w53 a0.M.a1.a0 (-256) 256  v56 hv55) ?_)
  rintro e w57 ⟨rfl, H2⟩
  have H : Sep ok w w57 [] [] := H.below H2.base
  clear H2
  refine ⟨_, rfl, ?_⟩
  refine RL_p (xT (.bool v56)) ?_
  refine RL_nil ?_
  exact ⟨⟨congrArg Value.bool (Option.some.inj hm), rfl, rfl, rfl, rfl, trivial⟩, H⟩
 rintro r' w' ⟨hA, H⟩
 obtain ⟨r58, rfl⟩ := regen _ hA; clear hA
 obtain ⟨w59, rfl⟩ := wld w'
 refine RL_p (xa (.bool b54)) ?_
 refine W_region ?_
 refine RL_p (xp 1) ?_
 refine RL_p (xm (ii 1)) ?_
 refine WU_succ ?_
 refine Wr ?_
 refine RL_p (xL) ?_
 refine W_seq ?_
 refine Wt ?_
 refine W_skip ?_
 refine W_seq ?_
 refine W_block ?_
 refine Wr ?_
 refine RL_p (xi ar28 sz3 sc3) ?_
 refine RL_p (xa (ii a0.M.a1.a1)) ?_
 refine W_region ?_
 refine RL_p (xm (.bool b54)) ?_
 refine RL_p (xm (.bool b54)) ?_
 obtain ⟨b60, hmS, hm⟩ := bind_some hm
 refine RL_cut 3 (fun r' w' => Agr [(45, .bool b60), (33, .agg (L14_2 a0).toArray), (34, ii 1), (37, .agg (L14_4 a0).toArray), (38, ii 1)] r' ∧ Sep ok w w' [] []) ?_ ?_
 ·cases hbS : b54
  ·have hm := cond_f hbS hmS
   refine RO ?_
   refine RO ?_
   refine RL_p (xF (.bool false)) ?_
   refine RL_nil ?_
   exact ⟨⟨congrArg Value.bool (Option.some.inj hm), rfl, rfl, rfl, rfl, trivial⟩, H⟩
  have hm := cond_t hbS hmS
  refine RQ (xm (ii a0.M.a1.a1)) ?_
  obtain ⟨v62, hv61, hm⟩ := bind_some hm
  refine RL_cons (O_call (by exact wn1 rfl rfl rfl rfl) (by rfl) (by rfl) (xc [ii a0.M.a1.a1, ii (-256), ii 256] (cf15 _ _)) (c15 okT K w59 a0.M.a1.a1 (-256) 256  v62 hv61) ?_)
  rintro e w63 ⟨rfl, H2⟩
  have H : Sep ok w w63 [] [] := H.below H2.base
  clear H2
  refine ⟨_, rfl, ?_⟩
  refine RL_p (xT (.bool v62)) ?_
  refine RL_nil ?_
  exact ⟨⟨congrArg Value.bool (Option.some.inj hm), rfl, rfl, rfl, rfl, trivial⟩, H⟩
 rintro r' w' ⟨hA, H⟩
 obtain ⟨r64, rfl⟩ := regen _ hA; clear hA
 obtain ⟨w65, rfl⟩ := wld w'
 refine RL_p (xa (.bool b60)) ?_
 refine W_region ?_
 refine RL_p (xp 2) ?_
 refine RL_p (xm (ii 2)) ?_
 refine WU_succ ?_
 refine Wr ?_
 refine RL_p (xL) ?_
 refine W_seq ?_
 refine Wt ?_
 refine W_skip ?_
 refine W_seq ?_
 refine W_block ?_
 refine Wr ?_
 refine RL_p (xi ar28 sz3 sc3) ?_
 refine RL_p (xa (ii a0.M.a1.a2)) ?_
 refine W_region ?_
 refine RL_p (xm (.bool b60)) ?_
 refine RL_p (xm (.bool b60)) ?_
 obtain ⟨b66, hmS, hm⟩ := bind_some hm
 refine RL_cut 3 (fun r' w' => Agr [(45, .bool b66), (33, .agg (L14_2 a0).toArray), (34, ii 1), (37, .agg (L14_4 a0).toArray), (38, ii 2)] r' ∧ Sep ok w w' [] []) ?_ ?_
 ·cases hbS : b60
  ·have hm := cond_f hbS hmS
   refine RO ?_
   refine RO ?_
   refine RL_p (xF (.bool false)) ?_
   refine RL_nil ?_
   exact ⟨⟨congrArg Value.bool (Option.some.inj hm), rfl, rfl, rfl, rfl, trivial⟩, H⟩
  have hm := cond_t hbS hmS
  refine RQ (xm (ii a0.M.a1.a2)) ?_
  obtain ⟨v68, hv67, hm⟩ := bind_some hm
  refine RL_cons (O_call (by exact wn1 rfl rfl rfl rfl) (by rfl) (by rfl) (xc [ii a0.M.a1.a2, ii (-256), ii 256] (cf15 _ _)) (c15 okT K w65 a0.M.a1.a2 (-256) 256  v68 hv67) ?_)
  rintro e w69 ⟨rfl, H2⟩
  have H : Sep ok w w69 [] [] := H.below H2.base
  clear H2
  refine ⟨_, rfl, ?_⟩
  refine RL_p (xT (.bool v68)) ?_
  refine RL_nil ?_
  exact ⟨⟨congrArg Value.bool (Option.some.inj hm), rfl, rfl, rfl, rfl, trivial⟩, H⟩
 rintro r' w' ⟨hA, H⟩
 obtain ⟨r70, rfl⟩ := regen _ hA; clear hA
 obtain ⟨w71, rfl⟩ := wld w'
 refine RL_p (xa (.bool b66)) ?_
 refine W_region ?_
 refine RL_p (xp 3) ?_
 refine RL_p (xm (ii 3)) ?_
 refine WU_succ ?_
 refine Wr ?_
 refine RL_p (xL) ?_
 refine W_seq ?_
 refine Wf ?_
 refine W_exit ?_
 refine W_region ?_
 refine RL_p (xp 2) ?_
 refine RL_p (xm (ii 2)) ?_
 refine WU_succ ?_
 refine Wr ?_
 refine RL_p (xL) ?_
 refine W_seq ?_
 refine Wt ?_
 refine W_skip ?_
 refine W_seq ?_
 refine W_block ?_
 refine Wr ?_
 refine RL_p (xJ (L14_5 a0) ar29 ag28) ?_
 refine RL_cons (OA ze28 H (fun w73 b72 (H : Sep ok w w73 [.blk b72 28 [ii 0, ii 0, ii 0]] []) => ?_))
 refine RL_cons (OS 0 0 (L14_5 a0) sz28 H (fun w74 (H : S14_2 ok w w74 b72 a0) => ?_))
 refine Wr ?_
 refine RL_p (xA 0 (L14_5 a0) ag28 (H.c 0)) ?_
 refine RL_p (xm (ii 0)) ?_
 refine W_block ?_
 refine W_unroll 40 ?_
 refine WU_succ ?_
 refine Wr ?_
 refine RL_p (xL) ?_
 refine W_seq ?_
 refine Wt ?_
 refine W_skip ?_
 refine W_seq ?_
 refine W_block ?_
 refine Wr ?_
 refine RL_p (xi ar28 sz3 sc3) ?_
 refine RL_p (xa (ii a0.M.a2.a0)) ?_
 refine W_region ?_
 refine RL_p (xm (.bool b66)) ?_
 refine RL_p (xm (.bool b66)) ?_
 obtain ⟨b75, hmS, hm⟩ := bind_some hm
 refine RL_cut 3 (fun r' w' => Agr [(45, .bool b75), (33, .agg (L14_2 a0).toArray), (34, ii 2), (37, .agg (L14_5 a0).toArray), (38, ii 0)] r' ∧ S14_2 ok w w' b72 a0) ?_ ?_
 ·cases hbS : b66
  ·have hm := cond_f hbS hmS
   refine RO ?_
   refine RO ?_
   refine RL_p (xF (.bool false)) ?_
   refine RL_nil ?_
   exact ⟨⟨congrArg Value.bool (Option.some.inj hm), rfl, rfl, rfl, rfl, trivial⟩, H⟩
  have hm := cond_t hbS hmS
  refine RQ (xm (ii a0.M.a2.a0)) ?_
  obtain ⟨v77, hv76, hm⟩ := bind_some hm
  refine RL_cons (O_call (by exact wn1 rfl rfl rfl rfl) (by rfl) (by rfl) (xc [ii a0.M.a2.a0, ii (-256), ii 256] (cf15 _ _)) (c15 okT K w74 a0.M.a2.a0 (-256) 256  v77 hv76) ?_)
  rintro e w78 ⟨rfl, H2⟩
  have H : S14_2 ok w w78 b72 a0 := H.below H2.base
  clear H2
  refine ⟨_, rfl, ?_⟩
  refine RL_p (xT (.bool v77)) ?_
  refine RL_nil ?_
  exact ⟨⟨congrArg Value.bool (Option.some.inj hm), rfl, rfl, rfl, rfl, trivial⟩, H⟩
 rintro r' w' ⟨hA, H⟩
 obtain ⟨r79, rfl⟩ := regen _ hA; clear hA
 obtain ⟨w80, rfl⟩ := wld w'
 refine RL_p (xa (.bool b75)) ?_
 refine W_region ?_
 refine RL_p (xp 1) ?_
 refine RL_p (xm (ii 1)) ?_
 refine WU_succ ?_
 refine Wr ?_
 refine RL_p (xL) ?_
 refine W_seq ?_
 refine Wt ?_
 refine W_skip ?_
 refine W_seq ?_
 refine W_block ?_
 refine Wr ?_
 refine RL_p (xi ar28 sz3 sc3) ?_
 refine RL_p (xa (ii a0.M.a2.a1)) ?_
 refine W_region ?_
 refine RL_p (xm (.bool b75)) ?_
 refine RL_p (xm (.bool b75)) ?_
 obtain ⟨b81, hmS, hm⟩ := bind_some hm
 refine RL_cut 3 (fun r' w' => Agr [(45, .bool b81), (33, .agg (L14_2 a0).toArray), (34, ii 2), (37, .agg (L14_5 a0).toArray), (38, ii 1)] r' ∧ S14_2 ok w w' b72 a0) ?_ ?_
 ·cases hbS : b75
  ·have hm := cond_f hbS hmS
   refine RO ?_
   refine RO ?_
   refine RL_p (xF (.bool false)) ?_
   refine RL_nil ?_
   exact ⟨⟨congrArg Value.bool (Option.some.inj hm), rfl, rfl, rfl, rfl, trivial⟩, H⟩
  have hm := cond_t hbS hmS
  refine RQ (xm (ii a0.M.a2.a1)) ?_
  obtain ⟨v83, hv82, hm⟩ := bind_some hm
  refine RL_cons (O_call (by exact wn1 rfl rfl rfl rfl) (by rfl) (by rfl) (xc [ii a0.M.a2.a1, ii (-256), ii 256] (cf15 _ _)) (c15 okT K w80 a0.M.a2.a1 (-256) 256  v83 hv82) ?_)
  rintro e w84 ⟨rfl, H2⟩
  have H : S14_2 ok w w84 b72 a0 := H.below H2.base
  clear H2
  refine ⟨_, rfl, ?_⟩
  refine RL_p (xT (.bool v83)) ?_
  refine RL_nil ?_
  exact ⟨⟨congrArg Value.bool (Option.some.inj hm), rfl, rfl, rfl, rfl, trivial⟩, H⟩
 rintro r' w' ⟨hA, H⟩
 obtain ⟨r85, rfl⟩ := regen _ hA; clear hA
 obtain ⟨w86, rfl⟩ := wld w'
 refine RL_p (xa (.bool b81)) ?_
 refine W_region ?_
 refine RL_p (xp 2) ?_
 refine RL_p (xm (ii 2)) ?_
 refine WU_succ ?_
 refine Wr ?_
 refine RL_p (xL) ?_
 refine W_seq ?_
 refine Wt ?_
 refine W_skip ?_
 refine W_seq ?_
 refine W_block ?_
 refine Wr ?_
 refine RL_p (xi ar28 sz3 sc3) ?_
 refine RL_p (xa (ii a0.M.a2.a2)) ?_
 refine W_region ?_
 refine RL_p (xm (.bool b81)) ?_
 refine RL_p (xm (.bool b81)) ?_
 obtain ⟨b87, hmS, hm⟩ := bind_some hm
 refine RL_cut 3 (fun r' w' => Agr [(45, .bool b87), (33, .agg (L14_2 a0).toArray), (34, ii 2), (37, .agg (L14_5 a0).toArray), (38, ii 2)] r' ∧ S14_2 ok w w' b72 a0) ?_ ?_
 ·cases hbS : b81
  ·have hm := cond_f hbS hmS
   refine RO ?_
   refine RO ?_
   refine RL_p (xF (.bool false)) ?_
   refine RL_nil ?_
   exact ⟨⟨congrArg Value.bool (Option.some.inj hm), rfl, rfl, rfl, rfl, trivial⟩, H⟩
  have hm := cond_t hbS hmS
  refine RQ (xm (ii a0.M.a2.a2)) ?_
  obtain ⟨v89, hv88, hm⟩ := bind_some hm
  refine RL_cons (O_call (by exact wn1 rfl rfl rfl rfl) (by rfl) (by rfl) (xc [ii a0.M.a2.a2, ii (-256), ii 256] (cf15 _ _)) (c15 okT K w86 a0.M.a2.a2 (-256) 256  v89 hv88) ?_)
  rintro e w90 ⟨rfl, H2⟩
  have H : S14_2 ok w w90 b72 a0 := H.below H2.base
  clear H2
  refine ⟨_, rfl, ?_⟩
  refine RL_p (xT (.bool v89)) ?_
  refine RL_nil ?_
  exact ⟨⟨congrArg Value.bool (Option.some.inj hm), rfl, rfl, rfl, rfl, trivial⟩, H⟩
 rintro r' w' ⟨hA, H⟩
 obtain ⟨r91, rfl⟩ := regen _ hA; clear hA
 obtain ⟨w92, rfl⟩ := wld w'
 refine RL_p (xa (.bool b87)) ?_
 refine W_region ?_
 refine RL_p (xp 3) ?_
 refine RL_p (xm (ii 3)) ?_
 refine WU_succ ?_
 refine Wr ?_
 refine RL_p (xL) ?_
 refine W_seq ?_
 refine Wf ?_
 refine W_exit ?_
 refine W_region ?_
 refine RL_p (xp 3) ?_
 refine RL_p (xm (ii 3)) ?_
 refine WU_succ ?_
 refine Wr ?_
 refine RL_p (xL) ?_
 refine W_seq ?_
 refine Wf ?_
 refine W_exit ?_
 refine W_seq ?_
 refine Wr ?_
 refine RL_p (xm (.bool b87)) ?_
 refine RL_p (x_not (by rfl)) ?_
 refine Wc (fun hb => ?_) (fun hb => ?_)
 ·have hm := cond_t hb hm
  refine Wr ?_
  refine RL_p (xa (ii 150)) ?_
  refine W_ret ?_
  obtain rfl := Option.some.inj hm
  exact ⟨[ii 150], (.tmp (by rfl) rfl), rfl, H.none_⟩
 have hm := cond_f hb hm
 refine W_skip ?_
 refine Wr ?_
 refine RL_p (xa (ii 0)) ?_
 refine W_ret ?_
 obtain rfl := Option.some.inj hm
 exact ⟨[ii 0], (.tmp (by rfl) rfl), rfl, H.none_⟩
end Go.Proofs.YtobkigllalbkiaaV.D

/- A plain Lean function that answers as the Go function does (none: not told), and the proof that a call answers so. Written by program. -/
set_option linter.unusedVariables false
set_option maxRecDepth 100000
set_option maxHeartbeats 4000000
namespace Go.Proofs.YtobkigllalbkiaaV.D
open Go.RowKit Go.Proofs.YtobkigllalbkiaaV
def m74 (K : Nat) (a0 : Int) : Option (Bool) :=
 ((bif (decide (0 < a0)) then some (decide (a0 ≤ 16)) else some false).bind fun b1 => some b1)
theorem c74 (ok : Okp) (K : Nat) (w : World) (a0 : Int)  (res : Bool) (hm : m74 K a0 = some res) :
  Calls Tryd.prog 74 #[ii a0] w (fun e w' => e = .returned (tup [.bool res]) ∧ Sep ok w w' [] []) := by
 refine calls_W (args := [ii a0]) Tryd.func74 rfl Tryd.ntmps74 Tryd.results74 rfl fun r hr => ?_
 obtain ⟨r1, rfl⟩ := regen (r := r) [(0, ii a0)] ⟨hr 0 _ rfl, trivial⟩
 have H : Sep ok w w [] [] := Sep.start ok w
 unfold m74 at hm
 refine Wr ?_
 refine RL_p (xa (.bool false)) ?_
 refine Wr ?_
 refine RL_p (xm (ii a0)) ?_
 refine RL_p (xG) ?_
 refine RL_p (xm (.bool (decide (0 < a0)))) ?_
 obtain ⟨b1, hmS, hm⟩ := bind_some hm
 refine RL_cut 3 (fun r' w' => Agr [(8, .bool b1)] r' ∧ Sep ok w w' [] []) ?_ ?_
 ·cases hbS : (decide (0 < a0))
  ·have hm := cond_f hbS hmS
   refine RO ?_
   refine RO ?_
   refine RL_p (xF (.bool false)) ?_
   refine RL_nil ?_
   exact ⟨⟨congrArg Value.bool (Option.some.inj hm), trivial⟩, H⟩
  have hm := cond_t hbS hmS
  refine RQ (xm (ii a0)) ?_
  refine RQ (x_leq (by rfl) (by rfl)) ?_
  refine RL_p (xT (.bool (decide (a0 ≤ 16)))) ?_
  refine RL_nil ?_
  exact ⟨⟨congrArg Value.bool (Option.some.inj hm), trivial⟩, H⟩
 rintro r' w' ⟨hA, H⟩
 obtain ⟨r2, rfl⟩ := regen _ hA; clear hA
 obtain ⟨w3, rfl⟩ := wld w'
 refine RL_p (xa (.bool b1)) ?_
 refine W_ret ?_
 obtain rfl := Option.some.inj hm
 exact ⟨[.bool b1], (.tmp (by rfl) rfl), rfl, H.none_⟩
end Go.Proofs.YtobkigllalbkiaaV.D

/- A plain Lean function that answers as the Go function does (none: not told), and the proof that a call answers so. Written by program. -/
set_option linter.unusedVariables false
set_option maxRecDepth 100000
set_option maxHeartbeats 4000000
namespace Go.Proofs.YtobkigllalbkiaaV.D
open Go.RowKit Go.Proofs.YtobkigllalbkiaaV
abbrev L65_0 (q0 : S_Texture) (q1 : Option Addr) (q2 : Nat) : List Value := [ii q0.W, ii q0.H, .slice q1 q0.Texels.length q2]
def m65 (K : Nat) (a0 : S_Texture) : Option (Int) :=
 ((m74 K a0.W).bind fun v8 => ((bif (!v8) then some true else ((m74 K a0.H).bind fun v12 => some (!v12))).bind fun b10 => ((bif b10 then some true else (ck (a0.W * a0.H) fun x17 => some ((a0.Texels.length : Int) != x17))).bind fun b16 => (bif b16 then some 8 else some 0))))
abbrev S65_0 (q0 : Okp) (q1 q2 : World) (q3 : Nat) (q4 : S_Texture) (q5 : Option Addr) (q6 : Nat) : Prop := Sep q0 q1 q2 [.blk q3 64 (L65_0 q4 q5 q6)] [RE.rd k_Ar4_Int q5 q6 q4.Texels]
theorem c65 (ok : Okp) (K : Nat) (w : World) (a0 : S_Texture) (A1 : Option Addr) (cp2 : Nat) (hR3 : Rd k_Ar4_Int w ok A1 cp2 a0.Texels) (res : Int) (hm : m65 K a0 = some res) :
  Calls Tryd.prog 65 #[.agg (L65_0 a0 A1 cp2).toArray] w (fun e w' => e = .returned (tup [ii res]) ∧ Sep ok w w' [] []) := by
 refine calls_W (args := [.agg (L65_0 a0 A1 cp2).toArray]) Tryd.func65 rfl Tryd.ntmps65 Tryd.results65 rfl fun r hr => ?_
 obtain ⟨r1, rfl⟩ := regen (r := r) [(0, .agg (L65_0 a0 A1 cp2).toArray)] ⟨hr 0 _ rfl, trivial⟩
 have H : Sep ok w w [] [RE.rd k_Ar4_Int A1 cp2 a0.Texels] := Sep.arg (Sep.start ok w) (re := RE.rd k_Ar4_Int A1 cp2 a0.Texels) rfl rfl hR3
 unfold m65 at hm
 refine Wr ?_
 refine RL_cons (OB H (fun w6 b5 (H : S65_0 ok w w6 b5 a0 A1 cp2) => ?_))
 refine RL_p (xa (ii 0)) ?_
 refine W_seq ?_
 refine Wr ?_
 refine RL_p (xf fo64_0) ?_
 refine RL_p (xl 0 (ii a0.W) sc3 (H.c 0)) ?_
 obtain ⟨v8, hv7, hm⟩ := bind_some hm
 refine RL_cons (OC (xc [ii a0.W] (cf74 _ _)) (c74 okT K w6 a0.W  v8 hv7) ?_)
 rintro e w9 ⟨rfl, H2⟩
 have H : S65_0 ok w w9 b5 a0 A1 cp2 := H.below H2.base
 clear H2
 refine ⟨_, rfl, ?_⟩
 refine RL_p (x_not (by rfl)) ?_
 refine RL_p (xm (.bool (!v8))) ?_
 obtain ⟨b10, hmS, hm⟩ := bind_some hm
 refine RL_cut 5 (fun r' w' => Agr [(12, .bool b10), (1, pp b5)] r' ∧ S65_0 ok w w' b5 a0 A1 cp2) ?_ ?_
 ·cases hbS : (!v8)
  ·have hm := cond_f hbS hmS
   refine RQ (xf fo64_1) ?_
   refine RQ (xl 1 (ii a0.H) sc3 (H.c 0)) ?_
   obtain ⟨v12, hv11, hm⟩ := bind_some hm
   refine RL_cons (O_call (by exact wn1 rfl rfl rfl rfl) (by rfl) (by rfl) (xc [ii a0.H] (cf74 _ _)) (c74 okT K w9 a0.H  v12 hv11) ?_)
   rintro e w13 ⟨rfl, H2⟩
   have H : S65_0 ok w w13 b5 a0 A1 cp2 := H.below H2.base
   clear H2
   refine ⟨_, rfl, ?_⟩
   refine RQ (x_not (by rfl)) ?_
   refine RL_p (xF (.bool (!v12))) ?_
   refine RL_nil ?_
   exact ⟨⟨congrArg Value.bool (Option.some.inj hm), rfl, trivial⟩, H⟩
  have hm := cond_t hbS hmS
  refine RO ?_
  refine RO ?_
  refine RO ?_
  refine RO ?_
  refine RL_p (xT (.bool true)) ?_
  refine RL_nil ?_
  exact ⟨⟨congrArg Value.bool (Option.some.inj hm), rfl, trivial⟩, H⟩
 rintro r' w' ⟨hA, H⟩
 obtain ⟨r14, rfl⟩ := regen _ hA; clear hA
 obtain ⟨w15, rfl⟩ := wld w'
 refine RL_p (xm (.bool b10)) ?_
 obtain ⟨b16, hmS, hm⟩ := bind_some hm
 refine RL_cut 10 (fun r' w' => Agr [(23, .bool b16)] r' ∧ S65_0 ok w w' b5 a0 A1 cp2) ?_ ?_
 ·cases hbS : b10
  ·have hm := cond_f hbS hmS
   refine RQ (xf fo64_2) ?_
   refine RQ (xl 2 (.slice A1 a0.Texels.length cp2) sc62 (H.c 0)) ?_
   refine RQ (x_len sl62 (by rfl)) ?_
   refine RQ (xf fo64_0) ?_
   refine RQ (xl 0 (ii a0.W) sc3 (H.c 0)) ?_
   refine RQ (xf fo64_1) ?_
   refine RQ (xl 1 (ii a0.H) sc3 (H.c 0)) ?_
   obtain ⟨x17, ex17, qx17, ux17, hm⟩ := ck_some hm
   refine RQ (xX ux17) ?_
   refine RQ (xN) ?_
   refine RL_p (xF (.bool ((a0.Texels.length : Int) != x17))) ?_
   refine RL_nil ?_
   exact ⟨⟨congrArg Value.bool (Option.some.inj hm), trivial⟩, H⟩
  have hm := cond_t hbS hmS
  refine RO ?_
  refine RO ?_
  refine RO ?_
  refine RO ?_
  refine RO ?_
  refine RO ?_
  refine RO ?_
  refine RO ?_
  refine RO ?_
  refine RL_p (xT (.bool true)) ?_
  refine RL_nil ?_
  exact ⟨⟨congrArg Value.bool (Option.some.inj hm), trivial⟩, H⟩
 rintro r' w' ⟨hA, H⟩
 obtain ⟨r18, rfl⟩ := regen _ hA; clear hA
 obtain ⟨w19, rfl⟩ := wld w'
 show RL _ _ _ _ _ _ _
 refine Wc (fun hb => ?_) (fun hb => ?_)
 ·have hm := cond_t hb hm
  refine W_seq ?_
  have H : Sep ok w w19 [] [] := ((H.takeL 0).pick [])
  refine W_region ?_
  refine RL_p (xa (ii 8)) ?_
  refine W_ret ?_
  obtain rfl := Option.some.inj hm
  exact ⟨[ii 8], (.tmp (by rfl) rfl), rfl, H.none_⟩
 have hm := cond_f hb hm
 refine W_skip ?_
 refine W_seq ?_
 have H : Sep ok w w19 [] [] := ((H.takeL 0).pick [])
 refine W_region ?_
 refine RL_p (xa (ii 0)) ?_
 refine W_ret ?_
 obtain rfl := Option.some.inj hm
 exact ⟨[ii 0], (.tmp (by rfl) rfl), rfl, H.none_⟩
end Go.Proofs.YtobkigllalbkiaaV.D

/- A plain Lean function that answers as the Go function does (none: not told), and the proof that a call answers so. Written by program. -/
set_option linter.unusedVariables false
set_option maxRecDepth 100000
set_option maxHeartbeats 4000000
namespace Go.Proofs.YtobkigllalbkiaaV.D
open Go.RowKit Go.Proofs.YtobkigllalbkiaaV
abbrev L45_0 (q0 : S_Texture) (q1 : Option Addr) (q2 : Nat) : List Value := [ii q0.W, ii q0.H, .slice q1 q0.Texels.length q2]
def m45_l1b (K : Nat) (a0 : (List S_Texture)) (rec1 : Int → Option (Int)) (y11_1 : Int) : Option (Int) :=
 (bif (decide (y11_1 < (a0.length : Int))) then (idx a0 y11_1 fun el7 => ((m65 K el7).bind fun v28 => (bif (v28 != 0) then some v28 else (ck (y11_1 + 1) fun x30 => (rec1 x30))))) else some 0)
def m45_l1 (K : Nat) (a0 : (List S_Texture)) : Nat → Int → Option (Int)
 | 0 => fun _ => none
 | k + 1 => m45_l1b K a0 (m45_l1 K a0 k)
def m45 (K : Nat) (a0 : (List S_Texture)) : Option (Int) :=
 (bif (decide (16 < (a0.length : Int))) then some 4 else m45_l1 K a0 K 0)
theorem c45 (ok : Okp) (K : Nat) (w : World) (a0 : (List S_Texture)) (A1 : Option Addr) (cp2 : Nat) (hR3 : Rd k_Texture w ok A1 cp2 a0) (res : Int) (hm : m45 K a0 = some res) :
  Calls Tryd.prog 45 #[.slice A1 a0.length cp2] w (fun e w' => e = .returned (tup [ii res]) ∧ Sep ok w w' [] []) := by
 refine calls_W (args := [.slice A1 a0.length cp2]) Tryd.func45 rfl Tryd.ntmps45 Tryd.results45 rfl fun r hr => ?_
 obtain ⟨r1, rfl⟩ := regen (r := r) [(0, .slice A1 a0.length cp2)] ⟨hr 0 _ rfl, trivial⟩
 have H : Sep ok w w [] [RE.rd k_Texture A1 cp2 a0] := Sep.arg (Sep.start ok w) (re := RE.rd k_Texture A1 cp2 a0) rfl rfl hR3
 unfold m45 at hm
 refine Wr ?_
 refine RL_p (xa (ii 0)) ?_
 refine W_seq ?_
 refine Wr ?_
 refine RL_p (xm (.slice A1 a0.length cp2)) ?_
 refine RL_p (x_len sl23 (by rfl)) ?_
 refine RL_p (xG) ?_
 refine Wc (fun hb => ?_) (fun hb => ?_)
 ·have hm := cond_t hb hm
  refine Wr ?_
  refine RL_p (xa (ii 4)) ?_
  refine W_ret ?_
  obtain rfl := Option.some.inj hm
  exact ⟨[ii 4], (.tmp (by rfl) rfl), rfl, H.none_⟩
 have hm := cond_f hb hm
 refine W_skip ?_
 refine W_seq ?_
 refine Wr ?_
 refine RL_p (xm (.slice A1 a0.length cp2)) ?_
 refine RL_p (x_len sl23 (by rfl)) ?_
 refine RL_p (xm (ii 0)) ?_
 refine W_block ?_
 refine W_loop (fun k1 r' w' => ∃ (y11_1 : Int), m45_l1 K a0 k1 y11_1 = some res ∧ Agr [(9, .slice A1 a0.length cp2), (10, ii (a0.length : Int)), (11, ii y11_1)] r' ∧ Sep ok w w' [] [RE.rd k_Texture A1 cp2 a0]) K ?_ ?_
 ·exact ⟨0, hm, ⟨rfl, rfl, rfl, trivial⟩, H⟩
 rintro k1 r' w' ⟨y11_1, hm, hA, H⟩
 obtain ⟨r5, rfl⟩ := regen _ hA; clear hA
 obtain ⟨w6, rfl⟩ := wld w'
 cases k1 with
 | zero => exact (none_some hm).elim
 | succ k1 =>
  have hm : m45_l1b K a0 (m45_l1 K a0 k1) y11_1 = some res := hm
  unfold m45_l1b at hm
  obtain ⟨rec1, hrec1⟩ : ∃ f, m45_l1 K a0 k1 = f := ⟨_, rfl⟩
  rw [hrec1] at hm
  refine Wr ?_
  refine RL_p (xL) ?_
  refine W_seq ?_
  refine Wc (fun hb => ?_) (fun hb => ?_)
  ·have hm := cond_t hb hm
   refine W_skip ?_
   refine W_seq ?_
   refine W_block ?_
   refine Wr ?_
   obtain ⟨el7, h8, h9, he10, hm⟩ := idx_some hm
   obtain ⟨g12, o13, hA11⟩ := (H.rd (i := 0) (by rfl)).addr he10
   obtain ⟨cs14, hk15, hat16, hg_cs14⟩ := (H.rd (i := 0) (by rfl)).openAt hA11 he10
   obtain ⟨A19, cp20, rfl, hR22⟩ := hk15
   have H : Sep ok w w6 [] [RE.rd k_Texture A1 cp2 a0, RE.cells g12 (o13 + (y11_1).toNat * 3) (L45_0 el7 A19 cp20)] := Sep.also H (re := RE.cells g12 (o13 + (y11_1).toNat * 3) (L45_0 el7 A19 cp20)) ⟨hg_cs14, hat16⟩
   have H : Sep ok w w6 [] [RE.rd k_Texture A1 cp2 a0, RE.cells g12 (o13 + (y11_1).toNat * 3) (L45_0 el7 A19 cp20), RE.rd k_Ar4_Int A19 cp20 el7.Texels] := Sep.also H (re := RE.rd k_Ar4_Int A19 cp20 el7.Texels) hR22
   refine RL_p (x_indexAddr sl23 sz64 (by rfl) (by rfl) hA11 h8 h9) ?_
   refine RL_p (xA 0 (L45_0 el7 A19 cp20) ag64 (H.cellsR (i := 1) (by rfl))) ?_
   refine RL_cons (OA ze64 H (fun w25 b24 (H : Sep ok w w25 [.blk b24 64 [ii 0, ii 0, .slice none 0 0]] [RE.rd k_Texture A1 cp2 a0, RE.cells g12 (o13 + (y11_1).toNat * 3) (L45_0 el7 A19 cp20), RE.rd k_Ar4_Int A19 cp20 el7.Texels]) => ?_))
   refine RL_cons (OS 0 0 (L45_0 el7 A19 cp20) sz64 H (fun w26 (H : Sep ok w w26 [.blk b24 64 (L45_0 el7 A19 cp20)] [RE.rd k_Texture A1 cp2 a0, RE.cells g12 (o13 + (y11_1).toNat * 3) (L45_0 el7 A19 cp20), RE.rd k_Ar4_Int A19 cp20 el7.Texels]) => ?_))
   refine Wr ?_
   refine RL_p (xA 0 (L45_0 el7 A19 cp20) ag64 (H.c 0)) ?_
   obtain ⟨v28, hv27, hm⟩ := bind_some hm
   refine RL_cons (OC (xc [.agg (L45_0 el7 A19 cp20).toArray] (cf65 _ _)) (c65 okT K w26 el7 A19 cp20 (H.rd (i := 2) (by rfl)).any v28 hv27) ?_)
   rintro e w29 ⟨rfl, H2⟩
   have H : Sep ok w w29 [.blk b24 64 (L45_0 el7 A19 cp20)] [RE.rd k_Texture A1 cp2 a0, RE.cells g12 (o13 + (y11_1).toNat * 3) (L45_0 el7 A19 cp20), RE.rd k_Ar4_Int A19 cp20 el7.Texels] := H.below H2.base
   clear H2
   refine ⟨_, rfl, ?_⟩
   refine RL_p (xa (ii v28)) ?_
   refine W_seq ?_
   have H : Sep ok w w29 [] [RE.rd k_Texture A1 cp2 a0] := ((H.takeL 0).pick [0])
   refine W_region ?_
   refine RL_p (xm (ii v28)) ?_
   refine RL_p (xN) ?_
   refine Wc (fun hb => ?_) (fun hb => ?_)
   ·have hm := cond_t hb hm
    refine Wr ?_
    refine RL_p (xm (ii v28)) ?_
    refine RL_p (xa (ii v28)) ?_
    refine W_ret ?_
    obtain rfl := Option.some.inj hm
    exact ⟨[ii v28], (.tmp (by rfl) rfl), rfl, H.none_⟩
   have hm := cond_f hb hm
   refine W_skip ?_
   refine W_region ?_
   obtain ⟨x30, ex30, qx30, ux30, hm⟩ := ck_some hm
   refine RL_p (xP ux30) ?_
   refine RL_p (xm (ii x30)) ?_
   refine RL_nil ?_
   subst hrec1
   exact ⟨k1, Nat.lt_succ_self k1, x30, hm, ⟨rfl, rfl, rfl, trivial⟩, H⟩
  have hm := cond_f hb hm
  refine W_exit ?_
  refine Wr ?_
  refine RL_p (xa (ii 0)) ?_
  refine W_ret ?_
  obtain rfl := Option.some.inj hm
  exact ⟨[ii 0], (.tmp (by rfl) rfl), rfl, H.none_⟩
end Go.Proofs.YtobkigllalbkiaaV.D

/- A plain Lean function that answers as the Go function does (none: not told), and the proof that a call answers so. Written by program. -/
set_option linter.unusedVariables false
set_option maxRecDepth 100000
set_option maxHeartbeats 4000000
namespace Go.Proofs.YtobkigllalbkiaaV.D
open Go.RowKit Go.Proofs.YtobkigllalbkiaaV

theorem c66 {σ : Type} (S : σ → World → Prop) (p : σ → S_Item → Option (Bool × σ)) (fid : Nat) (first caps : List Value) (a0 : List S_Item) (A1 : Option Addr) (cp2 : Nat)
  (hR : ∀ st w, S st w → Rd k_Item w okT A1 cp2 a0) (hcf : ∀ (args : Array Value) (w : World), (callFunc fid args).run Tryd.prog w = .ok (.enter fid args) w)
  (hf : ∀ (st : σ) (w : World) (x : S_Item) (cs : List Value) (q : Bool × σ), S st w → k_Item.rel w okT cs x → p st x = some q → Calls Tryd.prog fid (first ++ [Value.agg cs.toArray] ++ caps).toArray w (fun e w' => e = .returned (tup [.bool q.1]) ∧ S q.2 w'))
  (st0 : σ) (w : World) (h0 : S st0 w) (res : Int × σ) (hm : anyS p st0 0 a0 = some res) :
  Calls Tryd.prog 66 #[.slice A1 a0.length cp2, .func (.func fid) first.toArray caps.toArray] w (fun e w' => e = .returned (tup [ii res.1]) ∧ S res.2 w') := by
 refine calls_W (args := [.slice A1 a0.length cp2, .func (.func fid) first.toArray caps.toArray]) Tryd.func66 rfl Tryd.ntmps66 Tryd.results66 rfl fun r hr => ?_
 obtain ⟨r1, rfl⟩ := regen (r := r) [(0, .slice A1 a0.length cp2), (1, .func (.func fid) first.toArray caps.toArray)] ⟨hr 0 _ rfl, hr 1 _ rfl, trivial⟩
 have hlen : (a0.length : Int) ≤ 9223372036854775807 := by have h1 := (hR _ _ h0).1; have h2 := (hR _ _ h0).2.1; omega
 refine Wr ?_
 refine RL_pure (by exact wn0 rfl) (by rfl) (by rfl) (xa (ii 0)) ?_
 refine W_seq ?_
 refine Wr ?_
 refine RL_pure (by exact wn0 rfl) (by rfl) (by rfl) (xm (.slice A1 a0.length cp2)) ?_
 refine RL_pure (by exact wn0 rfl) (by rfl) (by rfl) (x_len sl22 (by rfl)) ?_
 refine RL_pure (by exact wn0 rfl) (by rfl) (by rfl) (xm (ii 0)) ?_
 refine W_block ?_
 refine W_loop (fun k r' w' => ∃ (i : Nat) (st : σ), i ≤ a0.length ∧ a0.length < i + k ∧ anyS p st i (a0.drop i) = some res ∧ Agr [(0, .slice A1 a0.length cp2), (1, .func (.func fid) first.toArray caps.toArray), (7, ii (a0.length : Int)), (8, ii (i : Int))] r' ∧ S st w') (a0.length + 1) ?_ ?_
 ·exact ⟨0, st0, Nat.zero_le _, by omega, hm, ⟨rfl, rfl, rfl, rfl, trivial⟩, h0⟩
 ·rintro k r' w' ⟨i, st, hi1, hi2, hm, hA, hS⟩
  obtain ⟨r5, rfl⟩ := regen _ hA; clear hA
  obtain ⟨w6, rfl⟩ := wld w'
  refine Wr ?_
  refine RL_pure (by exact wn0 rfl) (by rfl) (by rfl) (xL) ?_
  refine W_seq ?_
  refine Wc (fun hb => ?_) (fun hb => ?_)
  ·have hlt : i < a0.length := by have := of_decide_eq_true hb; omega
   have he : a0[i]? = some a0[i] := List.getElem?_eq_getElem hlt
   rw [List.drop_eq_getElem_cons hlt] at hm
   generalize a0[i] = el at he hm
   unfold anyS at hm
   obtain ⟨q, hq, hm⟩ := bind_some hm
   have hRd := hR _ _ hS
   refine W_skip ?_
   refine W_seq ?_
   refine W_block ?_
   refine Wr ?_
   refine RL_pure (by exact wn0 rfl) (by rfl) (by rfl) (xm (ii (i : Int))) ?_
   refine RL_pure (by exact wn0 rfl) (by rfl) (by rfl) (xa (ii (i : Int))) ?_
   refine Wr ?_
   refine RL_pure (by exact wn0 rfl) (by rfl) (by rfl) (xm (.func (.func fid) first.toArray caps.toArray)) ?_
   refine RL_pure (by exact wn0 rfl) (by rfl) (by rfl) (xm (.slice A1 a0.length cp2)) ?_
   refine RL_pure (by exact wn0 rfl) (by rfl) (by rfl) (xm (ii (i : Int))) ?_
   obtain ⟨g12, o13, hA11⟩ := hRd.addr he
   have he2 : a0[((i : Int)).toNat]? = some el := by simpa using he
   refine RL_pure (by exact wn0 rfl) (by rfl) (by rfl) (x_indexAddr sl22 sz52 (by rfl) (by rfl) hA11 (by omega) (by omega)) ?_
   obtain ⟨cs, hk, hat, hg⟩ := hRd.openAt hA11 he2
   have hcl : cs.length = 18 := k_Item.len hk
   refine RL_pure (by exact wn0 rfl) (by rfl) (by rfl) (x_loadA (j := 0) (vs := cs) ag52 (by rfl) hat (by rw [List.drop_zero, List.take_of_length_le (Nat.le_of_eq hcl)]) hcl) ?_
   refine RL_cons (OC (xc (first ++ [Value.agg cs.toArray] ++ caps) (hcf _ _)) (hf st w6 el cs q hS hk hq) ?_)
   rintro e w16 ⟨rfl, hS⟩
   refine ⟨_, rfl, ?_⟩
   show RL _ _ _ _ _ _ _
   refine Wc (fun hb => ?_) (fun hb => ?_)
   ·have hm := cond_t hb hm
    refine Wr ?_
    refine RL_pure (by exact wn0 rfl) (by rfl) (by rfl) (xm (ii (i : Int))) ?_
    refine RL_pure (by exact wn0 rfl) (by rfl) (by rfl) (xa (ii (i : Int))) ?_
    refine W_ret ?_
    obtain rfl := Option.some.inj hm
    exact ⟨[ii (i : Int)], (.tmp (by rfl) rfl), rfl, hS⟩
   ·have hm := cond_f hb hm
    refine W_skip ?_
    refine W_region ?_
    have hw1 : IntKind.i64.wrap ((i : Int) + 1) = ((i + 1 : Nat) : Int) := by rw [wrap_i64_in (by omega)]; push_cast; rfl
    refine RL_pure (by exact wn0 rfl) (by rfl) (by rfl) (xP hw1) ?_
    refine RL_pure (by exact wn0 rfl) (by rfl) (by rfl) (xm (ii ((i + 1 : Nat) : Int))) ?_
    refine RL_nil ?_
    exact ⟨k - 1, by omega, i + 1, q.2, by omega, by omega, by push_cast; exact hm, ⟨rfl, rfl, rfl, rfl, trivial⟩, hS⟩
  ·have hge : ¬ i < a0.length := by have := of_decide_eq_false hb; omega
   rw [List.drop_eq_nil_of_le (by omega)] at hm
   refine W_exit ?_
   refine Wr ?_
   refine RL_pure (by exact wn0 rfl) (by rfl) (by rfl) (xa (ii (-1))) ?_
   refine W_ret ?_
   obtain rfl := Option.some.inj hm
   exact ⟨[ii (-1)], (.tmp (by rfl) rfl), rfl, hS⟩
end Go.Proofs.YtobkigllalbkiaaV.D

/- A plain Lean function that answers as the Go function does (none: not told), and the proof that a call answers so. Written by program. -/
set_option linter.unusedVariables false
set_option maxRecDepth 100000
set_option maxHeartbeats 4000000
namespace Go.Proofs.YtobkigllalbkiaaV.D
open Go.RowKit Go.Proofs.YtobkigllalbkiaaV

theorem c46 {σ : Type} (S : σ → World → Prop) (p : σ → S_Item → Option (Bool × σ)) (fid : Nat) (first caps : List Value) (a0 : List S_Item) (A1 : Option Addr) (cp2 : Nat)
  (hR : ∀ st w, S st w → Rd k_Item w okT A1 cp2 a0) (hcf : ∀ (args : Array Value) (w : World), (callFunc fid args).run Tryd.prog w = .ok (.enter fid args) w)
  (hf : ∀ (st : σ) (w : World) (x : S_Item) (cs : List Value) (q : Bool × σ), S st w → k_Item.rel w okT cs x → p st x = some q → Calls Tryd.prog fid (first ++ [Value.agg cs.toArray] ++ caps).toArray w (fun e w' => e = .returned (tup [.bool q.1]) ∧ S q.2 w'))
  (st0 : σ) (w : World) (h0 : S st0 w) (res : Int × σ) (hm : anyS p st0 0 a0 = some res) :
  Calls Tryd.prog 46 #[.slice A1 a0.length cp2, .func (.func fid) first.toArray caps.toArray] w (fun e w' => e = .returned (tup [.bool (decide (0 ≤ res.1))]) ∧ S res.2 w') := by
 refine calls_W (args := [.slice A1 a0.length cp2, .func (.func fid) first.toArray caps.toArray]) Tryd.func46 rfl Tryd.ntmps46 Tryd.results46 rfl fun r hr => ?_
 obtain ⟨r1, rfl⟩ := regen (r := r) [(0, .slice A1 a0.length cp2), (1, .func (.func fid) first.toArray caps.toArray)] ⟨hr 0 _ rfl, hr 1 _ rfl, trivial⟩
 refine Wr ?_
 refine RL_pure (by exact wn0 rfl) (by rfl) (by rfl) (xa (.bool false)) ?_
 refine Wr ?_
 refine RL_pure (by exact wn0 rfl) (by rfl) (by rfl) (xm (.slice A1 a0.length cp2)) ?_
 refine RL_pure (by exact wn0 rfl) (by rfl) (by rfl) (xm (.func (.func fid) first.toArray caps.toArray)) ?_
 refine RL_cons (OC (xc [.slice A1 a0.length cp2, .func (.func fid) first.toArray caps.toArray] (cf66 _ _)) (c66 S p fid first caps a0 A1 cp2 hR hcf hf st0 w h0 res hm) ?_)
 rintro e w7 ⟨rfl, hS⟩
 refine ⟨_, rfl, ?_⟩
 refine RL_pure (by exact wn0 rfl) (by rfl) (by rfl) (x_geq (by rfl) (by rfl)) ?_
 refine RL_pure (by exact wn0 rfl) (by rfl) (by rfl) (xa (.bool (decide (0 ≤ res.1)))) ?_
 refine W_ret ?_
 exact ⟨[.bool (decide (0 ≤ res.1))], (.tmp (by rfl) rfl), rfl, hS⟩
end Go.Proofs.YtobkigllalbkiaaV.D

/- A plain Lean function that answers as the Go function does (none: not told), and the proof that a call answers so. Written by program. -/
set_option linter.unusedVariables false
set_option maxRecDepth 100000
set_option maxHeartbeats 4000000
namespace Go.Proofs.YtobkigllalbkiaaV.D
open Go.RowKit Go.Proofs.YtobkigllalbkiaaV
abbrev L67_0 (q0 : S_Look) : List Value := [.int .u8 q0.Color.a0, .int .u8 q0.Color.a1, .int .u8 q0.Color.a2, .int .u8 q0.Color.a3, ii q0.Texture, .int .u8 q0.Cull, ii q0.Bias, .bool q0.Blend, ii q0.Bin]
def m67 (K : Nat) (a0 : S_Look) (a1 : Int) : Option (Int) :=
 ((bif (decide (a1 < 0)) then some true else some (decide (16 < a1))).bind fun b3 => (bif b3 then some 2 else ((bif (decide (a0.Texture < (-1))) then some true else some (decide (a1 ≤ a0.Texture))).bind fun b6 => (bif b6 then (bif b6 then some 8 else some 0) else (bif (decide (2 < a0.Cull)) then (bif (decide (2 < a0.Cull)) then some 8 else some 0) else ((bif (decide (a0.Bias < (-1024))) then some true else some (decide (1024 < a0.Bias))).bind fun b9 => (bif b9 then (bif b9 then some 8 else some 0) else ((bif (decide (a0.Bin < 0)) then some true else some (decide (15 < a0.Bin))).bind fun b12 => (bif b12 then some 8 else some 0)))))))))
theorem c67 (ok : Okp) (K : Nat) (w : World) (a0 : S_Look) (a1 : Int)  (res : Int) (hm : m67 K a0 a1 = some res) :
  Calls Tryd.prog 67 #[.agg (L67_0 a0).toArray, ii a1] w (fun e w' => e = .returned (tup [ii res]) ∧ Sep ok w w' [] []) := by
 refine calls_W (args := [.agg (L67_0 a0).toArray, ii a1]) Tryd.func67 rfl Tryd.ntmps67 Tryd.results67 rfl fun r hr => ?_
 obtain ⟨r1, rfl⟩ := regen (r := r) [(0, .agg (L67_0 a0).toArray), (1, ii a1)] ⟨hr 0 _ rfl, hr 1 _ rfl, trivial⟩
 have H : Sep ok w w [] [] := Sep.start ok w
 unfold m67 at hm
 refine Wr ?_
 refine RL_cons (OB H (fun w2 b1 (H : Sep ok w w2 [.blk b1 48 (L67_0 a0)] []) => ?_))
 refine RL_p (xa (ii 0)) ?_
 refine W_seq ?_
 refine W_block ?_
 refine Wr ?_
 refine RL_p (xm (ii a1)) ?_
 refine RL_p (xL) ?_
 refine RL_p (xm (.bool (decide (a1 < 0)))) ?_
 obtain ⟨b3, hmS, hm⟩ := bind_some hm
 refine RL_cut 3 (fun r' w' => Agr [(11, .bool b3), (1, ii a1), (2, pp b1)] r' ∧ Sep ok w w' [.blk b1 48 (L67_0 a0)] []) ?_ ?_
 ·cases hbS : (decide (a1 < 0))
  ·have hm := cond_f hbS hmS
   refine RQ (xm (ii a1)) ?_
   refine RQ (xG) ?_
   refine RL_p (xF (.bool (decide (16 < a1)))) ?_
   refine RL_nil ?_
   exact ⟨⟨congrArg Value.bool (Option.some.inj hm), rfl, rfl, trivial⟩, H⟩
  have hm := cond_t hbS hmS
  refine RO ?_
  refine RO ?_
  refine RL_p (xT (.bool true)) ?_
  refine RL_nil ?_
  exact ⟨⟨congrArg Value.bool (Option.some.inj hm), rfl, rfl, trivial⟩, H⟩
 rintro r' w' ⟨hA, H⟩
 obtain ⟨r4, rfl⟩ := regen _ hA; clear hA
 obtain ⟨w5, rfl⟩ := wld w'
 refine RL_p (xa (.bool b3)) ?_
 refine Wc (fun hb => ?_) (fun hb => ?_)
 ·have hm := cond_t hb hm
  refine Wr ?_
  refine RL_p (xa (ii 2)) ?_
  refine W_ret ?_
  obtain rfl := Option.some.inj hm
  exact ⟨[ii 2], (.tmp (by rfl) rfl), rfl, H.none_⟩
 have hm := cond_f hb hm
 refine W_seq ?_
 refine Wr ?_
 refine RL_p (xf fo48_1) ?_
 refine RL_p (xl 4 (ii a0.Texture) sc3 (H.c 0)) ?_
 refine RL_p (xL) ?_
 refine RL_p (xm (.bool (decide (a0.Texture < (-1))))) ?_
 obtain ⟨b6, hmS, hm⟩ := bind_some hm
 refine RL_cut 5 (fun r' w' => Agr [(21, .bool b6), (2, pp b1)] r' ∧ Sep ok w w' [.blk b1 48 (L67_0 a0)] []) ?_ ?_
 ·cases hbS : (decide (a0.Texture < (-1)))
  ·have hm := cond_f hbS hmS
   refine RQ (xf fo48_1) ?_
   refine RQ (xl 4 (ii a0.Texture) sc3 (H.c 0)) ?_
   refine RQ (xm (ii a1)) ?_
   refine RQ (x_geq (by rfl) (by rfl)) ?_
   refine RL_p (xF (.bool (decide (a1 ≤ a0.Texture)))) ?_
   refine RL_nil ?_
   exact ⟨⟨congrArg Value.bool (Option.some.inj hm), rfl, trivial⟩, H⟩
  have hm := cond_t hbS hmS
  refine RO ?_
  refine RO ?_
  refine RO ?_
  refine RO ?_
  refine RL_p (xT (.bool true)) ?_
  refine RL_nil ?_
  exact ⟨⟨congrArg Value.bool (Option.some.inj hm), rfl, trivial⟩, H⟩
 rintro r' w' ⟨hA, H⟩
 obtain ⟨r7, rfl⟩ := regen _ hA; clear hA
 obtain ⟨w8, rfl⟩ := wld w'
 refine RL_p (xa (.bool b6)) ?_
 refine Wc (fun hb => ?_) (fun hb => ?_)
 ·have hm := cond_t hb hm
  refine W_skip ?_
  refine Wc (fun hb => ?_) (fun hb => ?_)
  ·have hm := cond_t hb hm
   refine Wr ?_
   refine RL_p (xa (ii 8)) ?_
   refine W_ret ?_
   obtain rfl := Option.some.inj hm
   exact ⟨[ii 8], (.tmp (by rfl) rfl), rfl, H.none_⟩
  have hm := cond_f hb hm
  refine W_skip ?_
  refine Wr ?_
  refine RL_p (xa (ii 0)) ?_
  refine W_ret ?_
  obtain rfl := Option.some.inj hm
  exact ⟨[ii 0], (.tmp (by rfl) rfl), rfl, H.none_⟩
 have hm := cond_f hb hm
 refine Wr ?_
 refine RL_p (xf fo48_2) ?_
 refine RL_p (xl 5 (.int .u8 a0.Cull) sc5 (H.c 0)) ?_
 refine RL_p (xG) ?_
 refine RL_p (xa (.bool (decide (2 < a0.Cull)))) ?_
 refine Wc (fun hb => ?_) (fun hb => ?_)
 ·have hm := cond_t hb hm
  refine W_skip ?_
  refine Wc (fun hb => ?_) (fun hb => ?_)
  ·have hm := cond_t hb hm
   refine Wr ?_
   refine RL_p (xa (ii 8)) ?_
   refine W_ret ?_
   obtain rfl := Option.some.inj hm
   exact ⟨[ii 8], (.tmp (by rfl) rfl), rfl, H.none_⟩
  have hm := cond_f hb hm
  refine W_skip ?_
  refine Wr ?_
  refine RL_p (xa (ii 0)) ?_
  refine W_ret ?_
  obtain rfl := Option.some.inj hm
  exact ⟨[ii 0], (.tmp (by rfl) rfl), rfl, H.none_⟩
 have hm := cond_f hb hm
 refine Wr ?_
 refine RL_p (xf fo48_3) ?_
 refine RL_p (xl 6 (ii a0.Bias) sc3 (H.c 0)) ?_
 refine RL_p (xL) ?_
 refine RL_p (xm (.bool (decide (a0.Bias < (-1024))))) ?_
 obtain ⟨b9, hmS, hm⟩ := bind_some hm
 refine RL_cut 4 (fun r' w' => Agr [(32, .bool b9), (2, pp b1)] r' ∧ Sep ok w w' [.blk b1 48 (L67_0 a0)] []) ?_ ?_
 ·cases hbS : (decide (a0.Bias < (-1024)))
  ·have hm := cond_f hbS hmS
   refine RQ (xf fo48_3) ?_
   refine RQ (xl 6 (ii a0.Bias) sc3 (H.c 0)) ?_
   refine RQ (xG) ?_
   refine RL_p (xF (.bool (decide (1024 < a0.Bias)))) ?_
   refine RL_nil ?_
   exact ⟨⟨congrArg Value.bool (Option.some.inj hm), rfl, trivial⟩, H⟩
  have hm := cond_t hbS hmS
  refine RO ?_
  refine RO ?_
  refine RO ?_
  refine RL_p (xT (.bool true)) ?_
  refine RL_nil ?_
  exact ⟨⟨congrArg Value.bool (Option.some.inj hm), rfl, trivial⟩, H⟩
 rintro r' w' ⟨hA, H⟩
 obtain ⟨r10, rfl⟩ := regen _ hA; clear hA
 obtain ⟨w11, rfl⟩ := wld w'
 refine RL_p (xa (.bool b9)) ?_
 refine Wc (fun hb => ?_) (fun hb => ?_)
 ·have hm := cond_t hb hm
  refine W_skip ?_
  refine Wc (fun hb => ?_) (fun hb => ?_)
  ·have hm := cond_t hb hm
   refine Wr ?_
   refine RL_p (xa (ii 8)) ?_
   refine W_ret ?_
   obtain rfl := Option.some.inj hm
   exact ⟨[ii 8], (.tmp (by rfl) rfl), rfl, H.none_⟩
  have hm := cond_f hb hm
  refine W_skip ?_
  refine Wr ?_
  refine RL_p (xa (ii 0)) ?_
  refine W_ret ?_
  obtain rfl := Option.some.inj hm
  exact ⟨[ii 0], (.tmp (by rfl) rfl), rfl, H.none_⟩
 have hm := cond_f hb hm
 refine W_region ?_
 refine RL_p (xf fo48_5) ?_
 refine RL_p (xl 8 (ii a0.Bin) sc3 (H.c 0)) ?_
 refine RL_p (xL) ?_
 refine RL_p (xm (.bool (decide (a0.Bin < 0)))) ?_
 obtain ⟨b12, hmS, hm⟩ := bind_some hm
 refine RL_cut 4 (fun r' w' => Agr [(40, .bool b12)] r' ∧ Sep ok w w' [.blk b1 48 (L67_0 a0)] []) ?_ ?_
 ·cases hbS : (decide (a0.Bin < 0))
  ·have hm := cond_f hbS hmS
   refine RQ (xf fo48_5) ?_
   refine RQ (xl 8 (ii a0.Bin) sc3 (H.c 0)) ?_
   refine RQ (xG) ?_
   refine RL_p (xF (.bool (decide (15 < a0.Bin)))) ?_
   refine RL_nil ?_
   exact ⟨⟨congrArg Value.bool (Option.some.inj hm), trivial⟩, H⟩
  have hm := cond_t hbS hmS
  refine RO ?_
  refine RO ?_
  refine RO ?_
  refine RL_p (xT (.bool true)) ?_
  refine RL_nil ?_
  exact ⟨⟨congrArg Value.bool (Option.some.inj hm), trivial⟩, H⟩
 rintro r' w' ⟨hA, H⟩
 obtain ⟨r13, rfl⟩ := regen _ hA; clear hA
 obtain ⟨w14, rfl⟩ := wld w'
 refine RL_p (xa (.bool b12)) ?_
 refine Wc (fun hb => ?_) (fun hb => ?_)
 ·have hm := cond_t hb hm
  refine Wr ?_
  refine RL_p (xa (ii 8)) ?_
  refine W_ret ?_
  obtain rfl := Option.some.inj hm
  exact ⟨[ii 8], (.tmp (by rfl) rfl), rfl, H.none_⟩
 have hm := cond_f hb hm
 refine W_skip ?_
 refine Wr ?_
 refine RL_p (xa (ii 0)) ?_
 refine W_ret ?_
 obtain rfl := Option.some.inj hm
 exact ⟨[ii 0], (.tmp (by rfl) rfl), rfl, H.none_⟩
end Go.Proofs.YtobkigllalbkiaaV.D

/- A plain Lean function that answers as the Go function does (none: not told), and the proof that a call answers so. Written by program. -/
set_option linter.unusedVariables false
set_option maxRecDepth 100000
set_option maxHeartbeats 4000000
namespace Go.Proofs.YtobkigllalbkiaaV.D
open Go.RowKit Go.Proofs.YtobkigllalbkiaaV
def m38 (K : Nat) (a0 : Int) : Option (Bool) :=
 ((bif (decide ((-32768) ≤ a0)) then some (decide (a0 ≤ 32768)) else some false).bind fun b1 => some b1)
theorem c38 (ok : Okp) (K : Nat) (w : World) (a0 : Int)  (res : Bool) (hm : m38 K a0 = some res) :
  Calls Tryd.prog 38 #[ii a0] w (fun e w' => e = .returned (tup [.bool res]) ∧ Sep ok w w' [] []) := by
 refine calls_W (args := [ii a0]) Tryd.func38 rfl Tryd.ntmps38 Tryd.results38 rfl fun r hr => ?_
 obtain ⟨r1, rfl⟩ := regen (r := r) [(0, ii a0)] ⟨hr 0 _ rfl, trivial⟩
 have H : Sep ok w w [] [] := Sep.start ok w
 unfold m38 at hm
 refine Wr ?_
 refine RL_p (xa (.bool false)) ?_
 refine Wr ?_
 refine RL_p (xm (ii a0)) ?_
 refine RL_p (x_geq (by rfl) (by rfl)) ?_
 refine RL_p (xm (.bool (decide ((-32768) ≤ a0)))) ?_
 obtain ⟨b1, hmS, hm⟩ := bind_some hm
 refine RL_cut 3 (fun r' w' => Agr [(8, .bool b1)] r' ∧ Sep ok w w' [] []) ?_ ?_
 ·cases hbS : (decide ((-32768) ≤ a0))
  ·have hm := cond_f hbS hmS
   refine RO ?_
   refine RO ?_
   refine RL_p (xF (.bool false)) ?_
   refine RL_nil ?_
   exact ⟨⟨congrArg Value.bool (Option.some.inj hm), trivial⟩, H⟩
  have hm := cond_t hbS hmS
  refine RQ (xm (ii a0)) ?_
  refine RQ (x_leq (by rfl) (by rfl)) ?_
  refine RL_p (xT (.bool (decide (a0 ≤ 32768)))) ?_
  refine RL_nil ?_
  exact ⟨⟨congrArg Value.bool (Option.some.inj hm), trivial⟩, H⟩
 rintro r' w' ⟨hA, H⟩
 obtain ⟨r2, rfl⟩ := regen _ hA; clear hA
 obtain ⟨w3, rfl⟩ := wld w'
 refine RL_p (xa (.bool b1)) ?_
 refine W_ret ?_
 obtain rfl := Option.some.inj hm
 exact ⟨[.bool b1], (.tmp (by rfl) rfl), rfl, H.none_⟩
end Go.Proofs.YtobkigllalbkiaaV.D

/- A plain Lean function that answers as the Go function does (none: not told), and the proof that a call answers so. Written by program. -/
set_option linter.unusedVariables false
set_option maxRecDepth 100000
set_option maxHeartbeats 4000000
namespace Go.Proofs.YtobkigllalbkiaaV.D
open Go.RowKit Go.Proofs.YtobkigllalbkiaaV
abbrev L37_0 (q0 : S_Box) : List Value := [ii q0.Low.X, ii q0.Low.Y, ii q0.Low.Z, ii q0.High.X, ii q0.High.Y, ii q0.High.Z]
abbrev L37_1  : List Value := [ii 0, ii 0, ii 0, ii 0, ii 0, ii 0]
abbrev L37_2 (q0 : S_Box) : List Value := [ii q0.Low.X, ii q0.High.X, ii q0.Low.Y, ii q0.High.Y, ii q0.Low.Z, ii q0.High.Z]
abbrev L37_3 (q0 : (Ar3 S_Span)) : List Value := [ii q0.a0.Low, ii q0.a0.High, ii q0.a1.Low, ii q0.a1.High, ii q0.a2.Low, ii q0.a2.High]
def m37 (K : Nat) (a0 : S_Box) : Option ((Ar3 S_Span)) :=
 some (⟨(⟨a0.Low.X, a0.High.X⟩ : S_Span), (⟨a0.Low.Y, a0.High.Y⟩ : S_Span), (⟨a0.Low.Z, a0.High.Z⟩ : S_Span)⟩ : (Ar3 S_Span))
theorem c37 (ok : Okp) (K : Nat) (w : World) (a0 : S_Box)  (res : (Ar3 S_Span)) (hm : m37 K a0 = some res) :
  Calls Tryd.prog 37 #[.agg (L37_0 a0).toArray] w (fun e w' => e = .returned (tup [.agg (L37_3 res).toArray]) ∧ Sep ok w w' [] []) := by
 refine calls_W (args := [.agg (L37_0 a0).toArray]) Tryd.func37 rfl Tryd.ntmps37 Tryd.results37 rfl fun r hr => ?_
 obtain ⟨r1, rfl⟩ := regen (r := r) [(0, .agg (L37_0 a0).toArray)] ⟨hr 0 _ rfl, trivial⟩
 have H : Sep ok w w [] [] := Sep.start ok w
 unfold m37 at hm
 refine Wr ?_
 refine RL_cons (OB H (fun w2 b1 (H : Sep ok w w2 [.blk b1 50 (L37_0 a0)] []) => ?_))
 refine RL_cons (OA ze110 H (fun w4 b3 (H : Sep ok w w4 [.blk b1 50 (L37_0 a0), .blk b3 110 L37_1] []) => ?_))
 refine Wr ?_
 refine RL_p (xf fo50_0) ?_
 refine RL_p (xf fo27_0) ?_
 refine RL_p (xl 0 (ii a0.Low.X) sc3 (H.c 0)) ?_
 refine RL_p (xf fo50_1) ?_
 refine RL_p (xf fo27_0) ?_
 refine RL_p (xl 3 (ii a0.High.X) sc3 (H.c 0)) ?_
 refine RL_p (x_build (vs := [(0, ii a0.Low.X), (1, ii a0.High.X)]) (cs := [ii a0.Low.X, ii a0.High.X]) (by rfl) (by kernel_rfl)) ?_
 refine RL_p (xf fo50_0) ?_
 refine RL_p (xf fo27_1) ?_
 refine RL_p (xl 1 (ii a0.Low.Y) sc3 (H.c 0)) ?_
 refine RL_p (xf fo50_1) ?_
 refine RL_p (xf fo27_1) ?_
 refine RL_p (xl 4 (ii a0.High.Y) sc3 (H.c 0)) ?_
 refine RL_p (x_build (vs := [(0, ii a0.Low.Y), (1, ii a0.High.Y)]) (cs := [ii a0.Low.Y, ii a0.High.Y]) (by rfl) (by kernel_rfl)) ?_
 refine RL_p (xf fo50_0) ?_
 refine RL_p (xf fo27_2) ?_
 refine RL_p (xl 2 (ii a0.Low.Z) sc3 (H.c 0)) ?_
 refine RL_p (xf fo50_1) ?_
 refine RL_p (xf fo27_2) ?_
 refine RL_p (xl 5 (ii a0.High.Z) sc3 (H.c 0)) ?_
 refine RL_p (x_build (vs := [(0, ii a0.Low.Z), (1, ii a0.High.Z)]) (cs := [ii a0.Low.Z, ii a0.High.Z]) (by rfl) (by kernel_rfl)) ?_
 refine RL_p (x_build (vs := [(0, .agg #[ii a0.Low.X, ii a0.High.X]), (1, .agg #[ii a0.Low.Y, ii a0.High.Y]), (2, .agg #[ii a0.Low.Z, ii a0.High.Z])]) (cs := (L37_2 a0)) (by rfl) (by kernel_rfl)) ?_
 refine RL_cons (OS 1 0 (L37_2 a0) sz110 H (fun w5 (H : Sep ok w w5 [.blk b1 50 (L37_0 a0), .blk b3 110 (L37_2 a0)] []) => ?_))
 refine W_ret ?_
 obtain rfl := Option.some.inj hm
 exact ⟨[.agg (L37_2 a0).toArray], (.cellA (by rfl) ag110 (H.c 1) (by rfl) rfl), rfl, H.none_⟩
end Go.Proofs.YtobkigllalbkiaaV.D

/- A plain Lean function that answers as the Go function does (none: not told), and the proof that a call answers so. Written by program. -/
set_option linter.unusedVariables false
set_option maxRecDepth 100000
set_option maxHeartbeats 4000000
namespace Go.Proofs.YtobkigllalbkiaaV.D
open Go.RowKit Go.Proofs.YtobkigllalbkiaaV
abbrev L61_0 (q0 : S_Box) : List Value := [ii q0.Low.X, ii q0.Low.Y, ii q0.Low.Z, ii q0.High.X, ii q0.High.Y, ii q0.High.Z]
abbrev L61_1 (q0 : Int) (q1 : S_Box) : List Value := [ii q0, ii q1.Low.Y, ii q1.Low.Z, ii q1.High.X, ii q1.High.Y, ii q1.High.Z]
abbrev L61_2 (q0 : Int) (q1 : S_Box) (q2 : Int) : List Value := [ii q0, ii q1.Low.Y, ii q1.Low.Z, ii q2, ii q1.High.Y, ii q1.High.Z]
def m61 (K : Nat) (a0 : Int) (a1 : Int) (f0 : S_Box) : Option (S_Box) :=
 some (⟨(⟨a0, f0.Low.Y, f0.Low.Z⟩ : S_Vec), (⟨a1, f0.High.Y, f0.High.Z⟩ : S_Vec)⟩ : S_Box)
theorem c61 (ok : Okp) (K : Nat) (w0 w : World) (a0 : Int) (a1 : Int) (f0 : S_Box) (g1 : Nat) (H : Sep ok w0 w [.blk g1 50 (L61_0 f0)] []) (res : S_Box) (hm : m61 K a0 a1 f0 = some res) :
  Calls Tryd.prog 61 #[ii a0, ii a1, pp g1] w (fun e w' => e = .returned (tup []) ∧ Sep ok w0 w' [.blk g1 50 (L61_0 res)] []) := by
 refine calls_W (args := [ii a0, ii a1, pp g1]) Tryd.func61 rfl Tryd.ntmps61 Tryd.results61 rfl fun r hr => ?_
 obtain ⟨r1, rfl⟩ := regen (r := r) [(0, ii a0), (1, ii a1), (2, pp g1)] ⟨hr 0 _ rfl, hr 1 _ rfl, hr 2 _ rfl, trivial⟩
 unfold m61 at hm
 refine W_region ?_
 refine RL_p (xm (ii a0)) ?_
 refine RL_p (xm (ii a1)) ?_
 refine RL_p (xf fo50_0) ?_
 refine RL_p (xf fo27_0) ?_
 refine RL_cons (OS 0 0 [ii a0] sz3 H (fun w2 (H : Sep ok w0 w2 [.blk g1 50 (L61_1 a0 f0)] []) => ?_))
 refine RL_p (xf fo50_1) ?_
 refine RL_p (xf fo27_0) ?_
 refine RL_cons (OS 0 3 [ii a1] sz3 H (fun w3 (H : Sep ok w0 w3 [.blk g1 50 (L61_2 a0 f0 a1)] []) => ?_))
 refine RL_nil ?_
 obtain rfl := Option.some.inj hm
 exact ⟨[], rfl, rfl, (H.pickL [0] (by decide)).pick []⟩
end Go.Proofs.YtobkigllalbkiaaV.D

/- A plain Lean function that answers as the Go function does (none: not told), and the proof that a call answers so. Written by program. -/
set_option linter.unusedVariables false
set_option maxRecDepth 100000
set_option maxHeartbeats 4000000
namespace Go.Proofs.YtobkigllalbkiaaV.D
open Go.RowKit Go.Proofs.YtobkigllalbkiaaV
abbrev L62_0 (q0 : S_Box) : List Value := [ii q0.Low.X, ii q0.Low.Y, ii q0.Low.Z, ii q0.High.X, ii q0.High.Y, ii q0.High.Z]
abbrev L62_1 (q0 : S_Box) (q1 : Int) : List Value := [ii q0.Low.X, ii q1, ii q0.Low.Z, ii q0.High.X, ii q0.High.Y, ii q0.High.Z]
abbrev L62_2 (q0 : S_Box) (q1 : Int) (q2 : Int) : List Value := [ii q0.Low.X, ii q1, ii q0.Low.Z, ii q0.High.X, ii q2, ii q0.High.Z]
def m62 (K : Nat) (a0 : Int) (a1 : Int) (f0 : S_Box) : Option (S_Box) :=
 some (⟨(⟨f0.Low.X, a0, f0.Low.Z⟩ : S_Vec), (⟨f0.High.X, a1, f0.High.Z⟩ : S_Vec)⟩ : S_Box)
theorem c62 (ok : Okp) (K : Nat) (w0 w : World) (a0 : Int) (a1 : Int) (f0 : S_Box) (g1 : Nat) (H : Sep ok w0 w [.blk g1 50 (L62_0 f0)] []) (res : S_Box) (hm : m62 K a0 a1 f0 = some res) :
  Calls Tryd.prog 62 #[ii a0, ii a1, pp g1] w (fun e w' => e = .returned (tup []) ∧ Sep ok w0 w' [.blk g1 50 (L62_0 res)] []) := by
 refine calls_W (args := [ii a0, ii a1, pp g1]) Tryd.func62 rfl Tryd.ntmps62 Tryd.results62 rfl fun r hr => ?_
 obtain ⟨r1, rfl⟩ := regen (r := r) [(0, ii a0), (1, ii a1), (2, pp g1)] ⟨hr 0 _ rfl, hr 1 _ rfl, hr 2 _ rfl, trivial⟩
 unfold m62 at hm
 refine W_region ?_
 refine RL_p (xm (ii a0)) ?_
 refine RL_p (xm (ii a1)) ?_
 refine RL_p (xf fo50_0) ?_
 refine RL_p (xf fo27_1) ?_
 refine RL_cons (OS 0 1 [ii a0] sz3 H (fun w2 (H : Sep ok w0 w2 [.blk g1 50 (L62_1 f0 a0)] []) => ?_))
 refine RL_p (xf fo50_1) ?_
 refine RL_p (xf fo27_1) ?_
 refine RL_cons (OS 0 4 [ii a1] sz3 H (fun w3 (H : Sep ok w0 w3 [.blk g1 50 (L62_2 f0 a0 a1)] []) => ?_))
 refine RL_nil ?_
 obtain rfl := Option.some.inj hm
 exact ⟨[], rfl, rfl, (H.pickL [0] (by decide)).pick []⟩
end Go.Proofs.YtobkigllalbkiaaV.D

/- A plain Lean function that answers as the Go function does (none: not told), and the proof that a call answers so. Written by program. -/
set_option linter.unusedVariables false
set_option maxRecDepth 100000
set_option maxHeartbeats 4000000
namespace Go.Proofs.YtobkigllalbkiaaV.D
open Go.RowKit Go.Proofs.YtobkigllalbkiaaV
abbrev L63_0 (q0 : S_Box) : List Value := [ii q0.Low.X, ii q0.Low.Y, ii q0.Low.Z, ii q0.High.X, ii q0.High.Y, ii q0.High.Z]
abbrev L63_1 (q0 : S_Box) (q1 : Int) : List Value := [ii q0.Low.X, ii q0.Low.Y, ii q1, ii q0.High.X, ii q0.High.Y, ii q0.High.Z]
abbrev L63_2 (q0 : S_Box) (q1 : Int) (q2 : Int) : List Value := [ii q0.Low.X, ii q0.Low.Y, ii q1, ii q0.High.X, ii q0.High.Y, ii q2]
def m63 (K : Nat) (a0 : Int) (a1 : Int) (f0 : S_Box) : Option (S_Box) :=
 some (⟨(⟨f0.Low.X, f0.Low.Y, a0⟩ : S_Vec), (⟨f0.High.X, f0.High.Y, a1⟩ : S_Vec)⟩ : S_Box)
theorem c63 (ok : Okp) (K : Nat) (w0 w : World) (a0 : Int) (a1 : Int) (f0 : S_Box) (g1 : Nat) (H : Sep ok w0 w [.blk g1 50 (L63_0 f0)] []) (res : S_Box) (hm : m63 K a0 a1 f0 = some res) :
  Calls Tryd.prog 63 #[ii a0, ii a1, pp g1] w (fun e w' => e = .returned (tup []) ∧ Sep ok w0 w' [.blk g1 50 (L63_0 res)] []) := by
 refine calls_W (args := [ii a0, ii a1, pp g1]) Tryd.func63 rfl Tryd.ntmps63 Tryd.results63 rfl fun r hr => ?_
 obtain ⟨r1, rfl⟩ := regen (r := r) [(0, ii a0), (1, ii a1), (2, pp g1)] ⟨hr 0 _ rfl, hr 1 _ rfl, hr 2 _ rfl, trivial⟩
 unfold m63 at hm
 refine W_region ?_
 refine RL_p (xm (ii a0)) ?_
 refine RL_p (xm (ii a1)) ?_
 refine RL_p (xf fo50_0) ?_
 refine RL_p (xf fo27_2) ?_
 refine RL_cons (OS 0 2 [ii a0] sz3 H (fun w2 (H : Sep ok w0 w2 [.blk g1 50 (L63_1 f0 a0)] []) => ?_))
 refine RL_p (xf fo50_1) ?_
 refine RL_p (xf fo27_2) ?_
 refine RL_cons (OS 0 5 [ii a1] sz3 H (fun w3 (H : Sep ok w0 w3 [.blk g1 50 (L63_2 f0 a0 a1)] []) => ?_))
 refine RL_nil ?_
 obtain rfl := Option.some.inj hm
 exact ⟨[], rfl, rfl, (H.pickL [0] (by decide)).pick []⟩
end Go.Proofs.YtobkigllalbkiaaV.D

/- A plain Lean function that answers as the Go function does (none: not told), and the proof that a call answers so. Written by program. -/
set_option linter.unusedVariables false
set_option maxRecDepth 100000
set_option maxHeartbeats 4000000
namespace Go.Proofs.YtobkigllalbkiaaV.D
open Go.RowKit Go.Proofs.YtobkigllalbkiaaV
abbrev L42_0 (q0 : (Ar3 S_Span)) : List Value := [ii q0.a0.Low, ii q0.a0.High, ii q0.a1.Low, ii q0.a1.High, ii q0.a2.Low, ii q0.a2.High]
abbrev L42_1  : List Value := [ii 0, ii 0, ii 0, ii 0, ii 0, ii 0]
abbrev L42_2 (q0 : Nat) : List Value := [.func (.func 61) #[] #[pp q0], .func (.func 62) #[] #[pp q0], .func (.func 63) #[] #[pp q0]]
abbrev L42_3 (q0 : S_Box) : List Value := [ii q0.Low.X, ii q0.Low.Y, ii q0.Low.Z, ii q0.High.X, ii q0.High.Y, ii q0.High.Z]
def m42 (K : Nat) (a0 : (Ar3 S_Span)) : Option (S_Box) :=
 ((m61 K a0.a0.Low a0.a0.High (⟨(⟨0, 0, 0⟩ : S_Vec), (⟨0, 0, 0⟩ : S_Vec)⟩ : S_Box)).bind fun v8 => ((m62 K a0.a1.Low a0.a1.High v8).bind fun v12 => ((m63 K a0.a2.Low a0.a2.High v12).bind fun v16 => some v16)))
abbrev S42_0 (q0 : Okp) (q1 q2 : World) (q3 : Nat) (q4 : (Ar3 S_Span)) (q5 : Nat) (q6 : S_Box) (q7 : Nat) : Prop := Sep q0 q1 q2 [.blk q3 110 (L42_0 q4), .blk q5 50 (L42_3 q6), .blk q7 145 (L42_2 q5)] []
theorem c42 (ok : Okp) (K : Nat) (w : World) (a0 : (Ar3 S_Span))  (res : S_Box) (hm : m42 K a0 = some res) :
  Calls Tryd.prog 42 #[.agg (L42_0 a0).toArray] w (fun e w' => e = .returned (tup [.agg (L42_3 res).toArray]) ∧ Sep ok w w' [] []) := by
 refine calls_W (args := [.agg (L42_0 a0).toArray]) Tryd.func42 rfl Tryd.ntmps42 Tryd.results42 rfl fun r hr => ?_
 obtain ⟨r1, rfl⟩ := regen (r := r) [(0, .agg (L42_0 a0).toArray)] ⟨hr 0 _ rfl, trivial⟩
 have H : Sep ok w w [] [] := Sep.start ok w
 unfold m42 at hm
 refine Wr ?_
 refine RL_cons (OB H (fun w2 b1 (H : Sep ok w w2 [.blk b1 110 (L42_0 a0)] []) => ?_))
 refine RL_cons (OA ze50 H (fun w4 b3 (H : Sep ok w w4 [.blk b1 110 (L42_0 a0), .blk b3 50 L42_1] []) => ?_))
 refine W_seq ?_
 refine Wr ?_
 refine RL_p (x_makeFunc (vs := [pp b3]) (by rfl)) ?_
 refine RL_p (x_makeFunc (vs := [pp b3]) (by rfl)) ?_
 refine RL_p (x_makeFunc (vs := [pp b3]) (by rfl)) ?_
 refine RL_cons (O_buildSlice (vs := [(0, .func (.func 61) #[] #[pp b3]), (1, .func (.func 62) #[] #[pp b3]), (2, .func (.func 63) #[] #[pp b3])]) (cs := [.func (.func 61) #[] #[pp b3], .func (.func 62) #[] #[pp b3], .func (.func 63) #[] #[pp b3]]) (by exact wn0 rfl) (by rfl) sl146 sz145 zf145 (by rfl) (by rfl) (by rfl) (by kernel_rfl) H (fun w6 b5 (H : Sep ok w w6 [.blk b1 110 (L42_0 a0), .blk b3 50 L42_1, .blk b5 145 (L42_2 b3)] []) => ?_))
 refine RL_p (x_len sl146 (by rfl)) ?_
 refine RL_p (xm (ii 0)) ?_
 refine W_block ?_
 refine W_unroll 40 ?_
 refine WU_succ ?_
 refine Wr ?_
 refine RL_p (xL) ?_
 refine W_seq ?_
 refine Wt ?_
 refine W_skip ?_
 refine W_seq ?_
 refine W_block ?_
 refine Wr ?_
 refine RL_p (xm (ii 0)) ?_
 refine RL_p (x_indexAddr sl146 sz145 (by rfl) (by rfl) rfl (by decide) (by decide)) ?_
 refine RL_p (xl 0 (.func (.func 61) #[] #[pp b3]) sc145 (H.c 2)) ?_
 refine RL_p (xa (ii 0)) ?_
 refine RL_p (xa (.func (.func 61) #[] #[pp b3])) ?_
 refine W_draw [.free 0, .free 1, .free 2, .free 3, .take 4, .free 5, .free 6, .free 7, .take 8, .tail 9] (fun wS => Sep ok w wS [.blk b1 110 (L42_0 a0), .blk b3 50 L42_1, .blk b5 145 (L42_2 b3)] []) [9] [0, 1, 2, 3, 5, 6, 7] mixed0 (by kernel_rfl) (by kernel_rfl) (by kernel_rfl) (by rfl) (by exact H.drew) ?_
 obtain ⟨w7, hW⟩ : ∃ W : World, W = { w6 with drawn := w6.drawn + 1 } := ⟨_, rfl⟩
 rw [← hW]
 have H : Sep ok w w7 [.blk b1 110 (L42_0 a0), .blk b3 50 L42_1, .blk b5 145 (L42_2 b3)] [] := by rw [hW]; exact H.drew
 clear hW
 refine PF (a := xm (.func (.func 61) #[] #[pp b3])) (b := ?_)
 refine PF (a := xm (ii 0)) (b := ?_)
 refine PF (a := xI ar110 sz109) (b := ?_)
 refine PF (a := xf fo109_0) (b := ?_)
 refine PT' (a := fun H => xl 0 (ii a0.a0.Low) sc3 (H.c 0)) (b := ?_)
 refine PF (a := xm (ii 0)) (b := ?_)
 refine PF (a := xI ar110 sz109) (b := ?_)
 refine PF (a := xf fo109_1) (b := ?_)
 refine PT' (a := fun H => xl 1 (ii a0.a0.High) sc3 (H.c 0)) (b := ?_)
 obtain ⟨v8, hv9, hm⟩ := bind_some hm
 refine PL (a := OC (xc [ii a0.a0.Low, ii a0.a0.High, pp b3] (cf61 _ _)) (c61 _ K w7 w7 a0.a0.Low a0.a0.High (⟨(⟨0, 0, 0⟩ : S_Vec), (⟨0, 0, 0⟩ : S_Vec)⟩ : S_Box) b3 (H.lend (i := 1) (by rfl)) v8 hv9) ?_)
 rintro e w10 ⟨rfl, HB⟩
 have H : S42_0 ok w w10 b1 a0 b3 v8 b5 := H.back (i := 1) (by rfl) HB
 clear HB
 refine ⟨_, rfl, ?_⟩
 show PR _ _ _ _ _ _ _ _
 refine PR_nil ?_
 refine W_region ?_
 refine RL_p (xp 1) ?_
 refine RL_p (xm (ii 1)) ?_
 refine WU_succ ?_
 refine Wr ?_
 refine RL_p (xL) ?_
 refine W_seq ?_
 refine Wt ?_
 refine W_skip ?_
 refine W_seq ?_
 refine W_block ?_
 refine Wr ?_
 refine RL_p (xm (ii 1)) ?_
 refine RL_p (x_indexAddr sl146 sz145 (by rfl) (by rfl) rfl (by decide) (by decide)) ?_
 refine RL_p (xl 1 (.func (.func 62) #[] #[pp b3]) sc145 (H.c 2)) ?_
 refine RL_p (xa (ii 1)) ?_
 refine RL_p (xa (.func (.func 62) #[] #[pp b3])) ?_
 refine W_draw [.free 0, .free 1, .free 2, .free 3, .take 4, .free 5, .free 6, .free 7, .take 8, .tail 9] (fun wS => S42_0 ok w wS b1 a0 b3 v8 b5) [9] [0, 1, 2, 3, 5, 6, 7] mixed0 (by kernel_rfl) (by kernel_rfl) (by kernel_rfl) (by rfl) (by exact H.drew) ?_
 obtain ⟨w11, hW⟩ : ∃ W : World, W = { w10 with drawn := w10.drawn + 1 } := ⟨_, rfl⟩
 rw [← hW]
 have H : S42_0 ok w w11 b1 a0 b3 v8 b5 := by rw [hW]; exact H.drew
 clear hW
 refine PF (a := xm (.func (.func 62) #[] #[pp b3])) (b := ?_)
 refine PF (a := xm (ii 1)) (b := ?_)
 refine PF (a := xI ar110 sz109) (b := ?_)
 refine PF (a := xf fo109_0) (b := ?_)
 refine PT' (a := fun H => xl 2 (ii a0.a1.Low) sc3 (H.c 0)) (b := ?_)
 refine PF (a := xm (ii 1)) (b := ?_)
 refine PF (a := xI ar110 sz109) (b := ?_)
 refine PF (a := xf fo109_1) (b := ?_)
 refine PT' (a := fun H => xl 3 (ii a0.a1.High) sc3 (H.c 0)) (b := ?_)
 obtain ⟨v12, hv13, hm⟩ := bind_some hm
 refine PL (a := OC (xc [ii a0.a1.Low, ii a0.a1.High, pp b3] (cf62 _ _)) (c62 _ K w11 w11 a0.a1.Low a0.a1.High v8 b3 (H.lend (i := 1) (by rfl)) v12 hv13) ?_)
 rintro e w14 ⟨rfl, HB⟩
 have H : S42_0 ok w w14 b1 a0 b3 v12 b5 := H.back (i := 1) (by rfl) HB
 clear HB
 refine ⟨_, rfl, ?_⟩
 show PR _ _ _ _ _ _ _ _
 refine PR_nil ?_
 refine W_region ?_
 refine RL_p (xp 2) ?_
 refine RL_p (xm (ii 2)) ?_
 refine WU_succ ?_
 refine Wr ?_
 refine RL_p (xL) ?_
 refine W_seq ?_
 refine Wt ?_
 refine W_skip ?_
 refine W_seq ?_
 refine W_block ?_
 refine Wr ?_
 refine RL_p (xm (ii 2)) ?_
 refine RL_p (x_indexAddr sl146 sz145 (by rfl) (by rfl) rfl (by decide) (by decide)) ?_
 refine RL_p (xl 2 (.func (.func 63) #[] #[pp b3]) sc145 (H.c 2)) ?_
 refine RL_p (xa (ii 2)) ?_
 refine RL_p (xa (.func (.func 63) #[] #[pp b3])) ?_
 refine W_draw [.free 0, .free 1, .free 2, .free 3, .take 4, .free 5, .free 6, .free 7, .take 8, .tail 9] (fun wS => S42_0 ok w wS b1 a0 b3 v12 b5) [9] [0, 1, 2, 3, 5, 6, 7] mixed0 (by kernel_rfl) (by kernel_rfl) (by kernel_rfl) (by rfl) (by exact H.drew) ?_
 obtain ⟨w15, hW⟩ : ∃ W : World, W = { w14 with drawn := w14.drawn + 1 } := ⟨_, rfl⟩
 rw [← hW]
 have H : S42_0 ok w w15 b1 a0 b3 v12 b5 := by rw [hW]; exact H.drew
 clear hW
 refine PF (a := xm (.func (.func 63) #[] #[pp b3])) (b := ?_)
 refine PF (a := xm (ii 2)) (b := ?_)
 refine PF (a := xI ar110 sz109) (b := ?_)
 refine PF (a := xf fo109_0) (b := ?_)
 refine PT' (a := fun H => xl 4 (ii a0.a2.Low) sc3 (H.c 0)) (b := ?_)
 refine PF (a := xm (ii 2)) (b := ?_)
 refine PF (a := xI ar110 sz109) (b := ?_)
 refine PF (a := xf fo109_1) (b := ?_)
 refine PT' (a := fun H => xl 5 (ii a0.a2.High) sc3 (H.c 0)) (b := ?_)
 obtain ⟨v16, hv17, hm⟩ := bind_some hm
 refine PL (a := OC (xc [ii a0.a2.Low, ii a0.a2.High, pp b3] (cf63 _ _)) (c63 _ K w15 w15 a0.a2.Low a0.a2.High v12 b3 (H.lend (i := 1) (by rfl)) v16 hv17) ?_)
 rintro e w18 ⟨rfl, HB⟩
 have H : S42_0 ok w w18 b1 a0 b3 v16 b5 := H.back (i := 1) (by rfl) HB
 clear HB
 refine ⟨_, rfl, ?_⟩
 show PR _ _ _ _ _ _ _ _
 refine PR_nil ?_
 refine W_region ?_
 refine RL_p (xp 3) ?_
 refine RL_p (xm (ii 3)) ?_
 refine WU_succ ?_
 refine Wr ?_
 refine RL_p (xL) ?_
 refine W_seq ?_
 refine Wf ?_
 refine W_exit ?_
 refine Wr ?_
 refine RL_p (xA 0 (L42_3 v16) ag50 (H.c 1)) ?_
 refine RL_cons (OS 1 0 (L42_3 v16) sz50 H (fun w19 (H : S42_0 ok w w19 b1 a0 b3 v16 b5) => ?_))
 refine W_ret ?_
 obtain rfl := Option.some.inj hm
 exact ⟨[.agg (L42_3 v16).toArray], (.cellA (by rfl) ag50 (H.c 1) (by rfl) rfl), rfl, H.none_⟩
end Go.Proofs.YtobkigllalbkiaaV.D
