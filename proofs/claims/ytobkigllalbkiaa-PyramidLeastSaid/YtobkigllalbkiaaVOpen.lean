/- What an argument's reading says of memory: a kind for each type, from the bottom up; and the same reading behind a call that leaves all older memory alone. Nothing here names a program. -/
import Derived.Test.YtobkigllalbkiaaVRow
import Derived.Deep.Slices
import Derived.Carry
set_option linter.unusedVariables false
set_option linter.unusedSimpArgs false
namespace Go.Proofs.YtobkigllalbkiaaV
open Go.RowKit Go.ChangeShapes Go.WideShapes Go.ChangeAt
structure Opn (P : Program) (t : TypeId) {α : Type} (K : Kd α) : Prop where
  sz : P.cellsOf t = K.sz
  down : ∀ {H : Type} {enc : TypeId × Value → H} {w : World} {fuel : Nat} {cs : List Value} {x : DataW H × List MemPlace}, DataW.trod enc P w 0 (fun _ => true) true fuel t cs = some x → ∃ a, K.rel w (fun _ => True) cs a
theorem Opn.int {P : Program} {t : TypeId} {k : IntKind} {hl : ∀ x : Int, ([.int k x] : List Value).length = 1} {h1 : ∀ x : Int, ∀ v ∈ ([.int k x] : List Value), v.oneCell' = true} (ht : P.underlying t = some (.int k)) (hz : P.cellsOf t = 1) : Opn P t (Kd.flat 1 (fun x : Int => [.int k x]) hl h1) where
  sz := hz
  down := fun {H enc w fuel cs x} h => by
    cases fuel with
    | zero => simp [DataW.trod] at h
    | succ n =>
      unfold DataW.trod at h
      rw [ht] at h
      split at h <;> first | cases h | skip
      all_goals simp_all
      obtain ⟨⟨rfl, _⟩, _⟩ := h
      exact ⟨_, rfl⟩
theorem Opn.bool {P : Program} {t : TypeId} (ht : P.underlying t = some .bool) (hz : P.cellsOf t = 1) : Opn P t kBool where
  sz := hz
  down := fun {H enc w fuel cs x} h => by
    obtain ⟨b, rfl, _⟩ := DataW.trod_bool ht h
    exact ⟨b, rfl⟩
theorem list_of_all {α : Type} {n : Nat} {p : Nat → α → Prop} (h : ∀ i, i < n → ∃ a, p i a) : ∃ l : List α, l.length = n ∧ ∀ (i : Nat) (a : α), l[i]? = some a → p i a := by
  induction n with
  | zero => exact ⟨[], rfl, fun i a hi => by simp at hi⟩
  | succ n ih =>
    obtain ⟨l, hl, hp⟩ := ih fun i hi => h i (by omega)
    obtain ⟨a, ha⟩ := h n (by omega)
    refine ⟨l ++ [a], by simp [hl], fun i b hi => ?_⟩
    rcases Nat.lt_or_ge i l.length with q | q
    · rw [List.getElem?_append_left q] at hi; exact hp i b hi
    · rw [List.getElem?_append_right q] at hi
      rcases Nat.eq_zero_or_pos (i - l.length) with e | e
      · rw [e] at hi; simp at hi; subst hi
        obtain rfl : i = n := by omega
        exact ha
      · obtain ⟨m, hm⟩ : ∃ m, i - l.length = m + 1 := ⟨i - l.length - 1, by omega⟩
        rw [hm] at hi; simp at hi
theorem Opn.slice {P : Program} {t e : TypeId} {α : Type} {K : Kd α} (ht : slElem P t = some e) (hz : P.cellsOf t = 1) (he : Opn P e K) (hpos : 0 < K.sz) : Opn P t (Kd.slice K) where
  sz := hz
  down := fun {H enc w fuel cs x} h => by
    rcases DataW.trod_slice (slElem_un ht) h with ⟨rfl, _⟩ | ⟨a, len, cap, elems, rest, n, _, rfl, _, _, hl, hm, hlen, hel, _, _⟩
    · exact ⟨[], none, 0, rfl, Rd.nil (by decide)⟩
    · have hz := he.sz
      have each : ∀ i, i < len → ∃ (y : α), ∃ cs, w.cells? 0 (a.add (i * K.sz)) K.sz = some cs ∧ K.rel w (fun _ => True) cs y := fun i hi => by
        have h1 := hel i hi
        rw [List.getElem?_eq_getElem (by omega)] at h1
        obtain ⟨cs', c1, c2⟩ := Option.bind_eq_some_iff.1 h1
        obtain ⟨y, hy⟩ := he.down c2
        rw [hz] at c1
        exact ⟨y, cs', c1, hy⟩
      obtain ⟨xs, hx, hp⟩ := list_of_all each
      refine ⟨xs, some a, cap, by rw [hx], by rw [hx]; exact hl, by simp only [maxLen] at hm; omega, fun hne => ?_⟩
      have h0 : 0 < len := by rw [← hx]; exact List.length_pos_iff.2 hne
      have sp : a.spot = none ∧ a.block < w.heap.size := by
        obtain ⟨y, cs', c1, _⟩ := each 0 h0
        obtain ⟨_, c2, c3⟩ := World.cells?_some c1
        have c4 := c3 0 hpos
        rw [Nat.zero_mul] at c4
        have e0 : (a.add 0).add 0 = a := by simp [Addr.add]
        rw [e0, List.getElem?_eq_getElem (by omega)] at c4
        unfold World.cell? at c4
        split at c4
        · rename_i hb
          refine ⟨?_, lt_of_heap hb⟩
          split at c4
          · cases c4
          · rename_i hs; cases hsp : a.spot with
            | none => rfl
            | some _ => rw [hsp] at hs; exact absurd rfl hs
        · cases c4
      obtain ⟨g, o, s⟩ := a
      obtain ⟨sp, hlt⟩ := sp
      have sp : s = none := sp
      subst sp
      refine ⟨g, o, rfl, trivial, hlt, fun i y hi => ?_⟩
      obtain ⟨cs', c1, c2⟩ := hp i y hi
      refine ⟨cs', c2, fun j v hj => ?_⟩
      obtain ⟨_, c3, c4⟩ := World.cells?_some c1
      have hlt : j < K.sz := by
        have := (List.getElem?_eq_some_iff.1 hj).1; omega
      have := c4 j hlt
      rw [add_plain, add_plain] at this
      rw [this]; exact hj
/-- A struct's field: its type, where it lies, how many cells it has. -/
def fieldAt (P : Program) (t i : Nat) : Option (TypeId × Nat × Nat) :=
  match P.underlying t with
  | some (.struct fs) => (fs[i]?).map fun f => (f.type, f.offset, P.cellsOf f.type)
  | _ => none
section
variable {H : Type} {enc : TypeId × Value → H} {P : Program} {w : World} {base : Nat} {sp : Nat → Bool} {held : Bool} {fuel : Nat} {cs : List Value} {x : DataW H × List MemPlace}
theorem trod_field {t i T off sz : Nat} (hf : fieldAt P t i = some (T, off, sz)) (h : DataW.trod enc P w base sp held fuel t cs = some x) : ∃ n y, DataW.trod enc P w base sp held n T ((cs.drop off).take sz) = some y := by
  unfold fieldAt at hf
  split at hf
  · rename_i fs hs
    obtain ⟨f, hfi, he⟩ := Option.map_eq_some_iff.1 hf
    simp only [Prod.mk.injEq] at he
    obtain ⟨rfl, rfl, rfl⟩ := he
    obtain ⟨xs, n, _, _, _, hxs, hall⟩ := DataW.trod_struct hs h
    have hlt : i < xs.length := by
      rw [hxs]
      exact (Array.getElem?_eq_some_iff.1 hfi).1
    exact ⟨n, _, (hall i f hfi).trans (List.getElem?_eq_getElem hlt)⟩
  · cases hf
def aggD (P : Program) (t : TypeId) : Bool :=
  match P.underlying t with
  | some (.struct _) | some (.array _ _) => true
  | _ => false
theorem trod_len {t n : Nat} (ha : aggD P t = true) (hn : P.cellsOf t = n) (h : DataW.trod enc P w base sp held fuel t cs = some x) : cs.length = n := by
  subst hn
  cases fuel with
  | zero => simp [DataW.trod] at h
  | succ m =>
    unfold aggD at ha
    unfold DataW.trod at h
    split at ha <;> rename_i hu
    · simp only [hu] at h
      split at h
      · assumption
      · cases h
    · simp only [hu] at h
      split at h
      · assumption
      · cases h
    · cases ha
theorem trod_part {t len e : Nat} (ha : arrOf P t = some (len, e)) {sz : Nat} (hz : P.cellsOf e = sz) (i : Nat) (hi : Nat.blt i len = true) (h : DataW.trod enc P w base sp held fuel t cs = some x) : ∃ n y, DataW.trod enc P w base sp held n e ((cs.drop (i * sz)).take sz) = some y := by
  subst hz
  have hu := arrOf_un ha
  cases fuel with
  | zero => simp [DataW.trod] at h
  | succ m =>
    unfold DataW.trod at h
    simp only [hu] at h
    split at h
    · obtain ⟨xs, hxs, _⟩ := Option.map_eq_some_iff.1 h
      have hlen := mapM_some_length hxs
      have := mapM_some_get hxs i i (by rw [List.getElem?_range (lt_of_blt hi)])
      have hlt : i < xs.length := by rw [hlen]; simpa using lt_of_blt hi
      exact ⟨m, _, this.trans (List.getElem?_eq_getElem hlt)⟩
    · cases h
end
section
variable {H : Type} {enc : TypeId × Value → H} {P : Program} {W W' : World}
/-- An argument that is a struct, or an array. -/
theorem arg_agg {t : TypeId} {α : Type} {K : Kd α} (O : Opn P t K) (ha : aggD P t = true) {r : Reach} {b0 : Nat} {v : Value} {d : DataW H} {ps : List MemPlace} (hval : Value.okWide P W r b0 t v) (h : DataW.Trod enc P W 0 (fun _ => true) true t v d ps) :
    ∃ cs a, v = .agg cs.toArray ∧ K.rel W (fun _ => True) cs a := by
  unfold aggD at ha
  unfold Value.okWide at hval
  have key : ∃ cs, v = .agg cs := by
    split at ha <;> rename_i hu
    · rw [hu] at hval; obtain ⟨cs, e, _⟩ := hval; exact ⟨cs, e⟩
    · rw [hu] at hval; obtain ⟨cs, e, _⟩ := hval; exact ⟨cs, e⟩
    · cases ha
  obtain ⟨cs, rfl⟩ := key
  obtain ⟨fuel, h⟩ := h
  obtain ⟨a, hk⟩ := O.down h
  exact ⟨cs.toList, a, by simp, hk⟩
theorem arg_int {t : TypeId} {k : IntKind} (ht : P.underlying t = some (.int k)) {r : Reach} {b0 : Nat} {v : Value} {d : DataW H} {ps : List MemPlace} (hval : Value.okWide P W r b0 t v) (h : DataW.Trod enc P W 0 (fun _ => true) true t v d ps) :
    ∃ a : Int, v = .int k a ∧ (Lit.int k a).wf = true := by
  obtain ⟨a, h1, _, _, h2⟩ := open_int ht hval h
  exact ⟨a, h1, h2⟩
theorem arg_slice {t e : TypeId} {α : Type} {K : Kd α} (ht : slElem P t = some e) (O : Opn P t (Kd.slice K)) {r : Reach} {b0 : Nat} {v : Value} {d : DataW H} {ps : List MemPlace} (hval : Value.okWide P W r b0 t v) (h : DataW.Trod enc P W 0 (fun _ => true) true t v d ps) :
    ∃ A c xs, v = .slice A (xs : List α).length c ∧ Rd K W (fun _ => True) A c xs := by
  obtain ⟨fuel, h⟩ := h
  obtain ⟨xs, A, c, hcs, hr⟩ := O.down h
  refine ⟨A, c, xs, ?_, hr⟩
  cases v with
  | agg cs =>
    exfalso
    unfold Value.okWide at hval
    rw [slElem_un ht] at hval
    simp only [Cell.okWide, slElem_un ht, Cell.ok] at hval
  | slice A' n' c' => simpa [Value.cells] using hcs
  | _ => simp [Value.cells] at hcs
theorem trodAll_stays (hl : laidOutB P = true) (hb : Below W.heap.size W W') {sp' : Nat → Bool} : ∀ {ts : List TypeId} {vs : List Value} {ds : List (DataW H)} {ps : List MemPlace}, (∀ t ∈ ts, P.readableRec t = true ∧ t < P.types.size) →
    DataW.TrodAll enc P W 0 (fun _ => true) true ts vs ds ps → (∀ p ∈ ps, p.block < W.heap.size) → (∀ p ∈ ps, sp' p.block = true) → DataW.TrodAll enc P W' 0 sp' true ts vs ds ps
  | [], vs, ds, ps, _, h, _, _ => by
    obtain ⟨rfl, rfl, rfl⟩ := trodAll_nil h
    exact rfl
  | t :: ts, vs, ds, ps, hr, h, hlt, hs => by
    obtain ⟨v, vs', d, ds', p, q, rfl, rfl, rfl, hd, hrest⟩ := trodAll_cons h
    have ht := hr t (by simp)
    refine ⟨p, q, WideElems.Trod_stays hl ht.1 ht.2 hd (fun x hx => hb.same (hlt x (by simp [hx]))) (fun x hx => hs x (by simp [hx])), ?_, rfl⟩
    exact trodAll_stays hl hb (fun u hu => hr u (by simp [hu])) hrest (fun x hx => hlt x (by simp [hx])) (fun x hx => hs x (by simp [hx]))
end
end Go.Proofs.YtobkigllalbkiaaV
