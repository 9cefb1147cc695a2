/- Memory for the small logic: what a call owns, what it may read; kept over every change that it makes. Nothing here names a program. -/
import Derived.Test.YtobkigllalbkiaaVCore
import Derived.WalkKit
import Derived.Laws.CopyOwn
import Derived.Laws.CopyRow
import Derived.Laws.Tables
import Derived.Laws.OwnMore
import Derived.Laws.StructEq
import Derived.Maps.AppendAt
set_option linter.unusedVariables false
set_option linter.unusedSimpArgs false
namespace Go.Proofs.YtobkigllalbkiaaV
open Go.RowKit

theorem lt_of_heap {w : World} {b : Nat} {o : Obj} (h : w.heap[b]? = some o) : b < w.heap.size := by
  rcases Nat.lt_or_ge b w.heap.size with h' | h'
  · exact h'
  · rw [Array.getElem?_eq_none h'] at h; cases h

/-- What 'ok' lets in stays as it is, and is let in by ok'. -/
structure Mov (w w' : World) (ok ok' : Nat → Prop) : Prop where
  size : w.heap.size ≤ w'.heap.size
  at_ : ∀ b, ok b → b < w.heap.size → ok' b ∧ w'.heap[b]? = w.heap[b]?
structure RE where
  rel : World → (Nat → Prop) → Prop
  keep : ∀ {w w' : World} {ok ok' : Nat → Prop}, rel w ok → Mov w w' ok ok' → rel w' ok'
structure Kd (α : Type) where
  sz : Nat
  rel : World → (Nat → Prop) → List Value → α → Prop
  len : ∀ {w : World} {ok : Nat → Prop} {cs : List Value} {x : α}, rel w ok cs x → cs.length = sz
  one : ∀ {w : World} {ok : Nat → Prop} {cs : List Value} {x : α}, rel w ok cs x → ∀ v ∈ cs, v.oneCell' = true
  keep : ∀ {w w' : World} {ok ok' : Nat → Prop} {cs : List Value} {x : α}, rel w ok cs x → Mov w w' ok ok' → rel w' ok' cs x

/-- These cells lie there. -/
def CellsAt (w : World) (g o : Nat) (cs : List Value) : Prop := ∀ j v, cs[j]? = some v → w.cell? ⟨g, o + j, none⟩ = some v
theorem CellsAt.keep {w w' : World} {g o : Nat} {cs : List Value} (h : CellsAt w g o cs) (hb : w'.heap[g]? = w.heap[g]?) : CellsAt w' g o cs :=
  fun j v hj => by
    have : w'.cell? ⟨g, o + j, none⟩ = w.cell? ⟨g, o + j, none⟩ := World.cell?_of_block (a := ⟨g, o + j, none⟩) hb
    rw [this]; exact h j v hj
theorem CellsAt.of_heap {w : World} {g o : Nat} {cs cur : List Value} {t : TypeId} {fr : Nat × Nat} (hg : w.heap[g]? = some (.cells cur.toArray t fr)) (h : ∀ j v, cs[j]? = some v → cur[o + j]? = some v) : CellsAt w g o cs :=
  fun j v hj => by
    have := h j v hj
    simp [World.cell?, hg, this]
/-- A slice that may be read. -/
def Rd {α : Type} (K : Kd α) (w : World) (ok : Nat → Prop) (A : Option Addr) (c : Nat) (xs : List α) : Prop :=
  xs.length ≤ c ∧ c ≤ 9223372036854775807 ∧ (xs ≠ [] → ∃ g o, A = some ⟨g, o, none⟩ ∧ ok g ∧ g < w.heap.size ∧
    ∀ (i : Nat) (x : α), xs[i]? = some x → ∃ cs, K.rel w ok cs x ∧ CellsAt w g (o + i * K.sz) cs)
theorem Rd.keep {α : Type} {K : Kd α} {w w' : World} {ok ok' : Nat → Prop} {A : Option Addr} {c : Nat} {xs : List α} (h : Rd K w ok A c xs) (hm : Mov w w' ok ok') : Rd K w' ok' A c xs := by
  refine ⟨h.1, h.2.1, fun hne => ?_⟩
  obtain ⟨g, o, rfl, hg, hlt, hx⟩ := h.2.2 hne
  obtain ⟨h1, h2⟩ := hm.at_ g hg hlt
  refine ⟨g, o, rfl, h1, Nat.lt_of_lt_of_le hlt hm.size, fun i x hi => ?_⟩
  obtain ⟨cs, hk, hc⟩ := hx i x hi
  exact ⟨cs, K.keep hk hm, hc.keep h2⟩
def RE.rd {α : Type} (K : Kd α) (A : Option Addr) (c : Nat) (xs : List α) : RE := ⟨fun w ok => Rd K w ok A c xs, fun h hm => h.keep hm⟩
/-- Cells that lie in memory that may be read. -/
def RE.cells (g o : Nat) (cs : List Value) : RE := ⟨fun w ok => ok g ∧ g < w.heap.size ∧ CellsAt w g o cs, fun h hm =>
  ⟨(hm.at_ _ h.1 h.2.1).1, Nat.lt_of_lt_of_le h.2.1 hm.size, h.2.2.keep (hm.at_ _ h.1 h.2.1).2⟩⟩
/-- Cells, element by element. -/
def Chunks {α : Type} (K : Kd α) (w : World) (ok : Nat → Prop) : List Value → List α → Prop
  | cs, [] => cs = []
  | cs, x :: xs => K.rel w ok (cs.take K.sz) x ∧ Chunks K w ok (cs.drop K.sz) xs
theorem Chunks.keep {α : Type} {K : Kd α} {w w' : World} {ok ok' : Nat → Prop} (hm : Mov w w' ok ok') : ∀ {cs : List Value} {xs : List α}, Chunks K w ok cs xs → Chunks K w' ok' cs xs
  | _, [], h => h
  | _, _ :: _, h => ⟨K.keep h.1 hm, Chunks.keep hm h.2⟩
def RE.hole : RE := ⟨fun _ _ => True, fun _ _ => trivial⟩
def RE.chunks {α : Type} (K : Kd α) (cs : List Value) (xs : List α) : RE := ⟨fun w ok => Chunks K w ok cs xs, fun h hm => h.keep hm⟩
theorem Chunks.len {α : Type} {K : Kd α} {w : World} {ok : Nat → Prop} : ∀ {cs : List Value} {xs : List α}, Chunks K w ok cs xs → cs.length = xs.length * K.sz
  | _, [], h => by
    have : _ = [] := h
    simp [this]
  | cs, x :: xs, h => by
    have h1 := K.len h.1
    have h2 := Chunks.len h.2
    rw [List.length_take] at h1
    rw [List.length_drop] at h2
    rw [List.length_cons, Nat.add_mul]
    omega
theorem Chunks.one {α : Type} {K : Kd α} {w : World} {ok : Nat → Prop} : ∀ {cs : List Value} {xs : List α}, Chunks K w ok cs xs → ∀ v ∈ cs, v.oneCell' = true
  | _, [], h, v, hv => by
    have : _ = [] := h
    rw [this] at hv; cases hv
  | cs, x :: xs, h, v, hv => by
    rw [← List.take_append_drop K.sz cs, List.mem_append] at hv
    rcases hv with hv | hv
    · exact K.one h.1 v hv
    · exact Chunks.one h.2 v hv
theorem Chunks.nil {α : Type} {K : Kd α} {w : World} {ok : Nat → Prop} : Chunks K w ok [] [] := rfl
theorem Chunks.snoc {α : Type} {K : Kd α} {w : World} {ok : Nat → Prop} : ∀ {cs : List Value} {xs : List α} {ce : List Value} {x : α}, Chunks K w ok cs xs → K.rel w ok ce x → Chunks K w ok (cs ++ ce) (xs ++ [x])
  | cs, [], ce, x, h, hx => by
    have h0 : cs = [] := h
    subst h0
    have hl := K.len hx
    refine ⟨?_, ?_⟩
    · rw [List.nil_append, List.take_of_length_le (by omega)]; exact hx
    · show _ = []
      rw [List.nil_append, List.drop_eq_nil_of_le (by omega)]
  | cs, y :: xs, ce, x, h, hx => by
    have hl := K.len h.1
    rw [List.length_take] at hl
    have hle : K.sz ≤ cs.length := by omega
    refine ⟨?_, ?_⟩
    · rw [List.take_append_of_le_length hle]; exact h.1
    · rw [List.drop_append_of_le_length hle]; exact Chunks.snoc h.2 hx
theorem Chunks.at_ {α : Type} {K : Kd α} {w : World} {ok : Nat → Prop} : ∀ {cs : List Value} {xs : List α}, Chunks K w ok cs xs → ∀ (i : Nat) (x : α), xs[i]? = some x → K.rel w ok ((cs.drop (i * K.sz)).take K.sz) x
  | cs, [], h, i, x, hi => by simp at hi
  | cs, y :: xs, h, 0, x, hi => by
    simp at hi; subst hi
    simpa using h.1
  | cs, y :: xs, h, i + 1, x, hi => by
    have := Chunks.at_ h.2 i x (by simpa using hi)
    rwa [List.drop_drop, show K.sz + i * K.sz = (i + 1) * K.sz by rw [Nat.add_mul, Nat.one_mul, Nat.add_comm]] at this

inductive Ent where
  | blk (b t : Nat) (cs : List Value)
  | row (v : Value) (t sz n : Nat) (cs : List Value)
  | obj (b : Nat) (o : Obj)
  | hole
def Ent.blks : Ent → List Nat
  | .blk b _ _ => [b]
  | .row v _ _ _ _ => v.ownBlock.toList
  | .obj b _ => [b]
  | .hole => []
def Ent.ok (w : World) : Ent → Prop
  | .blk b t cs => w.heap[b]? = some (.cells cs.toArray t (0, 0))
  | .row v t sz n cs => w.ownsRow 0 t sz v n cs
  | .obj b o => w.heap[b]? = some o
  | .hole => True
theorem Ent.keep {w w' : World} {e : Ent} (h : e.ok w) (hb : ∀ b ∈ e.blks, w'.heap[b]? = w.heap[b]?) : e.ok w' := by
  cases e with
  | blk b t cs => exact (hb b (by simp [Ent.blks])).trans h
  | obj b o => exact (hb b (by simp [Ent.blks])).trans h
  | hole => trivial
  | row v t sz n cs =>
    refine ⟨h.1, ?_⟩
    rcases h.2 with h2 | ⟨g, cap, cur, rfl, h3, h4, h5⟩
    · exact .inl h2
    · exact .inr ⟨g, cap, cur, rfl, h3, (hb g (by simp [Ent.blks, Value.ownBlock])).trans h4, h5⟩
def blks : List Ent → List Nat
  | [] => []
  | e :: L => e.blks ++ blks L
theorem mem_blks {L : List Ent} {i : Nat} {e : Ent} (h : L[i]? = some e) {b : Nat} (hb : b ∈ e.blks) : b ∈ blks L := by
  induction L generalizing i with
  | nil => simp at h
  | cons x L ih =>
    cases i with
    | zero => simp at h; subst h; exact List.mem_append.2 (.inl hb)
    | succ i => exact List.mem_append.2 (.inr (ih (by simpa using h)))
theorem blks_append (L M : List Ent) : blks (L ++ M) = blks L ++ blks M := by
  induction L with
  | nil => rfl
  | cons x L ih => simp [blks, ih]
theorem of_mem_blks {L : List Ent} {b : Nat} (h : b ∈ blks L) : ∃ (i : Nat) (e : Ent), L[i]? = some e ∧ b ∈ e.blks := by
  induction L with
  | nil => cases h
  | cons x L ih =>
    rcases List.mem_append.1 h with h | h
    · exact ⟨0, x, rfl, h⟩
    · obtain ⟨i, e, hi, hb⟩ := ih h
      exact ⟨i + 1, e, by simpa using hi, hb⟩
def okS (ok0 : Nat → Prop) (w0 : World) (L : List Ent) : Nat → Prop := fun b => b ∉ blks L ∧ (ok0 b ∨ w0.heap.size ≤ b)

/-- From w0 on, a call has come to w: the things of its own (each in memory of its own, new since w0), and what may be read (of what was let in at w0, or new). -/
structure Sep (ok0 : Nat → Prop) (w0 w : World) (L : List Ent) (Rs : List RE) : Prop where
  base : Below w0.heap.size w0 w
  ents : ∀ (i : Nat) (e : Ent), L[i]? = some e → e.ok w
  ge : ∀ b ∈ blks L, w0.heap.size ≤ b ∧ b < w.heap.size
  nodup : (blks L).Nodup
  rds : ∀ (i : Nat) (re : RE), Rs[i]? = some re → re.rel w (okS ok0 w0 L)

section
variable {ok0 : Nat → Prop} {w0 w w' : World} {L L' : List Ent} {Rs : List RE}
theorem Sep.le (h : Sep ok0 w0 w L Rs) : w0.heap.size ≤ w.heap.size := h.base.size
theorem Sep.start (ok0 : Nat → Prop) (w : World) : Sep ok0 w w [] [] :=
  ⟨Below.refl _ _, fun i e h => by simp at h, fun b hb => by simp [blks] at hb, List.nodup_nil, fun i re hi => by simp at hi⟩
theorem Sep.step (h : Sep ok0 w0 w L Rs) (hb : Below w0.heap.size w0 w') (hs : w.heap.size ≤ w'.heap.size) (hent : ∀ (i : Nat) (e : Ent), L'[i]? = some e → e.ok w')
    (hge : ∀ b ∈ blks L', w0.heap.size ≤ b ∧ b < w'.heap.size) (hnd : (blks L').Nodup)
    (hmov : ∀ b, b ∉ blks L → b < w.heap.size → b ∉ blks L' ∧ w'.heap[b]? = w.heap[b]?) : Sep ok0 w0 w' L' Rs :=
  ⟨hb, hent, hge, hnd, fun i re hi => re.keep (h.rds i re hi) ⟨hs, fun b hb' hl => ⟨⟨(hmov b hb'.1 hl).1, hb'.2⟩, (hmov b hb'.1 hl).2⟩⟩⟩
theorem Sep.drew (h : Sep ok0 w0 w L Rs) : Sep ok0 w0 { w with drawn := w.drawn + 1 } L Rs :=
  h.step ⟨h.base.os, h.base.tape, h.base.output, h.base.size, h.base.block⟩ (Nat.le_refl _) (fun i e hi => Ent.keep (h.ents i e hi) fun _ _ => rfl) h.ge h.nodup fun b hb _ => ⟨hb, rfl⟩
/-- A callee that turned nothing that was there. -/
theorem Sep.below (h : Sep ok0 w0 w L Rs) (hw : Below w.heap.size w w') : Sep ok0 w0 w' L Rs := by
  have hle := h.base.size
  refine h.step ⟨hw.os.trans h.base.os, hw.tape.trans h.base.tape, hw.output.trans h.base.output, Nat.le_trans h.base.size hw.size, fun k hk => (hw.block k (by omega)).trans (h.base.block k hk)⟩ hw.size
    (fun i e hi => Ent.keep (h.ents i e hi) fun b hb => hw.block b (h.ge b (mem_blks hi hb)).2) (fun b hb => ⟨(h.ge b hb).1, Nat.lt_of_lt_of_le (h.ge b hb).2 hw.size⟩) h.nodup fun b hb hl => ⟨hb, hw.block b hl⟩
theorem Sep.to_below (h : Sep ok0 w0 w L Rs) : Below w0.heap.size w0 w := h.base
theorem nodup_app {l m : List Nat} (h1 : l.Nodup) (h2 : m.Nodup) (h : ∀ x ∈ m, x ∉ l) : (l ++ m).Nodup := by
  rw [List.nodup_append]
  exact ⟨h1, h2, fun a ha b hb hab => h b hb (hab ▸ ha)⟩
/-- A new thing of the call's own, in new memory. -/
theorem Sep.push (h : Sep ok0 w0 w L Rs) (e : Ent) (hw : Below w.heap.size w w') (he : e.ok w') (hge : ∀ b ∈ e.blks, w.heap.size ≤ b ∧ b < w'.heap.size) (hnd : e.blks.Nodup) : Sep ok0 w0 w' (L ++ [e]) Rs := by
  have h1 := h.below hw
  have hle := h.base.size
  refine h.step h1.base hw.size ?_ ?_ ?_ ?_
  · intro i e' hi
    rcases Nat.lt_or_ge i L.length with hl | hl
    · rw [List.getElem?_append_left hl] at hi; exact h1.ents i e' hi
    · rw [List.getElem?_append_right hl] at hi
      rcases Nat.eq_zero_or_pos (i - L.length) with h0 | h0
      · rw [h0] at hi; simp at hi; subst hi; exact he
      · obtain ⟨m, hm⟩ : ∃ m, i - L.length = m + 1 := ⟨i - L.length - 1, by omega⟩
        rw [hm] at hi; simp at hi
  · intro b hb
    rw [blks_append, List.mem_append] at hb
    rcases hb with hb | hb
    · exact h1.ge b hb
    · have := hge b (by simpa [blks] using hb)
      omega
  · rw [blks_append]
    refine nodup_app h.nodup (by simpa [blks] using hnd) fun x hx hx' => ?_
    have := (hge x (by simpa [blks] using hx)).1
    have := (h.ge x hx').2
    omega
  · intro b hb hl
    refine ⟨?_, hw.block b hl⟩
    rw [blks_append, List.mem_append]
    rintro (hb' | hb')
    · exact hb hb'
    · have := (hge b (by simpa [blks] using hb')).1
      omega
theorem below_alloc (w : World) (o : Obj) : Below w.heap.size w (w.alloc o) := (Below.refl _ w).alloc (Nat.le_refl _) o
theorem Sep.alloc (h : Sep ok0 w0 w L Rs) (t : TypeId) (cs : List Value) : Sep ok0 w0 (w.alloc (.cells cs.toArray t)) (L ++ [.blk w.heap.size t cs]) Rs :=
  h.push _ (below_alloc w _) (heap_alloc_new w _) (by simp [Ent.blks]) (by simp [Ent.blks])
theorem Sep.allocObj (h : Sep ok0 w0 w L Rs) (o : Obj) : Sep ok0 w0 (w.alloc o) (L ++ [.obj w.heap.size o]) Rs :=
  h.push _ (below_alloc w _) (heap_alloc_new w _) (by simp [Ent.blks]) (by simp [Ent.blks])
/-- Another slice that may be read. -/
theorem Sep.also (h : Sep ok0 w0 w L Rs) {re : RE} (hr : re.rel w (okS ok0 w0 L)) : Sep ok0 w0 w L (Rs ++ [re]) :=
  ⟨h.base, h.ents, h.ge, h.nodup, fun i re' hi => by
    rcases Nat.lt_or_ge i Rs.length with hl | hl
    · rw [List.getElem?_append_left hl] at hi; exact h.rds i re' hi
    · rw [List.getElem?_append_right hl] at hi
      rcases Nat.eq_zero_or_pos (i - Rs.length) with h0 | h0
      · rw [h0] at hi; simp at hi; subst hi; exact hr
      · obtain ⟨m, hm⟩ : ∃ m, i - Rs.length = m + 1 := ⟨i - Rs.length - 1, by omega⟩
        rw [hm] at hi; simp at hi⟩
/-- Fewer things known of what may be read. -/
theorem Sep.less (h : Sep ok0 w0 w L Rs) (Rs' : List RE) (hr : ∀ (i : Nat) (re : RE), Rs'[i]? = some re → ∃ j : Nat, Rs[j]? = some re) : Sep ok0 w0 w L Rs' :=
  ⟨h.base, h.ents, h.ge, h.nodup, fun i re hi => by obtain ⟨j, hj⟩ := hr i re hi; exact h.rds j re hj⟩
theorem blks_set {L : List Ent} {i : Nat} {e e' : Ent} (hi : L[i]? = some e) (he : e'.blks = e.blks) : blks (L.set i e') = blks L := by
  induction L generalizing i with
  | nil => simp at hi
  | cons x L ih =>
    cases i with
    | zero => simp at hi; subst hi; simp [blks, he]
    | succ i => simp [blks, ih (i := i) (by simpa using hi)]
theorem other_blk {L : List Ent} (hn : (blks L).Nodup) {i j : Nat} {e e' : Ent} (hi : L[i]? = some e) (hj : L[j]? = some e') (hne : i ≠ j) {b : Nat} (hb : b ∈ e.blks) : b ∉ e'.blks := by
  induction L generalizing i j with
  | nil => simp at hi
  | cons x L ih =>
    simp only [blks, List.nodup_append] at hn
    cases i with
    | zero =>
      simp at hi; subst hi
      cases j with
      | zero => exact absurd rfl hne
      | succ j => exact fun hb' => hn.2.2 b hb b (mem_blks (by simpa using hj) hb') rfl
    | succ i =>
      cases j with
      | zero =>
        simp at hj; subst hj
        exact fun hb' => hn.2.2 b hb' b (mem_blks (by simpa using hi) hb) rfl
      | succ j => exact ih hn.2.1 (by simpa using hi) (by simpa using hj) (by omega)
/-- One of the call's own things written anew, in its own memory. -/
theorem Sep.upd_ (h : Sep ok0 w0 w L Rs) {i : Nat} {e e' : Ent} (hi : L[i]? = some e) (he : e'.blks = e.blks) (hok : e'.ok w') (hsz : w'.heap.size = w.heap.size) (hos : w'.os = w.os) (htp : w'.tape = w.tape) (hout : w'.output = w.output)
    (hb : ∀ k, k ∉ e.blks → w'.heap[k]? = w.heap[k]?) : Sep ok0 w0 w' (L.set i e') Rs := by
  have hbl := blks_set hi he
  refine h.step ⟨hos.trans h.base.os, htp.trans h.base.tape, hout.trans h.base.output, by have := h.base.size; omega, fun k hk => (hb k fun hk' => by have := (h.ge k (mem_blks hi hk')).1; omega).trans (h.base.block k hk)⟩ (by omega) ?_ (by rw [hbl, hsz]; exact h.ge) (by rw [hbl]; exact h.nodup) ?_
  · intro j e2 hj
    by_cases hij : i = j
    · subst hij
      have hlt : i < L.length := (List.getElem?_eq_some_iff.1 hi).1
      rw [List.getElem?_set_self hlt] at hj
      simp at hj; subst hj; exact hok
    · rw [List.getElem?_set_ne hij] at hj
      exact Ent.keep (h.ents j e2 hj) fun b hb' => hb b fun hb'' => other_blk h.nodup hi hj hij hb'' hb'
  · intro b hb' hl
    refine ⟨by rw [hbl]; exact hb', hb b fun hb'' => hb' (mem_blks hi hb'')⟩
/-- Nothing more is written here: the thing is no longer the call's own alone. -/
theorem blks_erase {L : List Ent} (i : Nat) : ∀ b, b ∈ blks (L.eraseIdx i) → b ∈ blks L := by
  induction L generalizing i with
  | nil => intro b h; simpa using h
  | cons x L ih =>
    cases i with
    | zero => intro b h; exact List.mem_append.2 (.inr (by simpa using h))
    | succ i =>
      intro b h
      rcases List.mem_append.1 (show b ∈ x.blks ++ blks (L.eraseIdx i) from h) with h | h
      · exact List.mem_append.2 (.inl h)
      · exact List.mem_append.2 (.inr (ih i b h))
theorem nodup_erase {L : List Ent} (i : Nat) (h : (blks L).Nodup) : (blks (L.eraseIdx i)).Nodup := by
  induction L generalizing i with
  | nil => simpa using h
  | cons x L ih =>
    simp only [blks, List.nodup_append] at h
    cases i with
    | zero => simpa using h.2.1
    | succ i =>
      show (x.blks ++ blks (L.eraseIdx i)).Nodup
      rw [List.nodup_append]
      exact ⟨h.1, ih i h.2.1, fun a ha b hb => h.2.2 a ha b (blks_erase i b hb)⟩
theorem Sep.forget (h : Sep ok0 w0 w L Rs) (i : Nat) : Sep ok0 w0 w (L.eraseIdx i) Rs := by
  refine h.step h.base (Nat.le_refl _) ?_ (fun b hb => h.ge b (blks_erase i b hb)) (nodup_erase i h.nodup) fun b hb hl => ⟨fun hb' => hb (blks_erase i b hb'), rfl⟩
  intro j e hj
  rcases Nat.lt_or_ge j i with hl | hl
  · rw [List.getElem?_eraseIdx_of_lt hl] at hj; exact h.ents j e hj
  · rw [List.getElem?_eraseIdx_of_ge hl] at hj; exact h.ents (j + 1) e hj
theorem erase_not {L : List Ent} (hn : (blks L).Nodup) {i : Nat} {e : Ent} (hi : L[i]? = some e) {b : Nat} (hb : b ∈ e.blks) : b ∉ blks (L.eraseIdx i) := by
  intro hb'
  obtain ⟨j, e', hj, hbe⟩ := of_mem_blks hb'
  rcases Nat.lt_or_ge j i with hl | hl
  · rw [List.getElem?_eraseIdx_of_lt hl] at hj
    exact other_blk hn hi hj (by omega) hb hbe
  · rw [List.getElem?_eraseIdx_of_ge hl] at hj
    exact other_blk hn hi hj (by omega) hb hbe
/-- A slice comes in. -/
theorem Sep.arg (h : Sep ok0 w0 w L Rs) {re : RE} (hw : w = w0) (hL : L = []) (hr : re.rel w ok0) : Sep ok0 w0 w L (Rs ++ [re]) :=
  h.also (re.keep hr ⟨Nat.le_refl _, fun b hb _ => ⟨⟨by subst hL; simp [blks], .inl hb⟩, rfl⟩⟩)
/-- Some of what may be read. -/
theorem Sep.pick (h : Sep ok0 w0 w L Rs) (js : List Nat) : Sep ok0 w0 w L (js.filterMap (Rs[·]?)) :=
  h.less _ fun i re hi => by
    have hm := List.mem_of_getElem? hi
    obtain ⟨j, _, hj⟩ := List.mem_filterMap.1 hm
    exact ⟨j, hj⟩
/-- Behind a call: what the callee leaves is the caller's. -/
theorem Sep.call {L2 : List Ent} {Rs2 : List RE} (h : Sep ok0 w0 w L Rs) (h2 : Sep (okS ok0 w0 L) w w' L2 Rs2) : Sep ok0 w0 w' (L ++ L2) (Rs ++ Rs2) := by
  have h1 := h.below h2.base
  have hle := h.base.size
  refine ⟨h1.base, fun i e hi => ?_, fun b hb => ?_, ?_, fun i re hi => ?_⟩
  · rcases Nat.lt_or_ge i L.length with hl | hl
    · rw [List.getElem?_append_left hl] at hi; exact h1.ents i e hi
    · rw [List.getElem?_append_right hl] at hi; exact h2.ents _ e hi
  · rw [blks_append, List.mem_append] at hb
    rcases hb with hb | hb
    · exact h1.ge b hb
    · have := h2.ge b hb; omega
  · rw [blks_append]
    refine nodup_app h.nodup h2.nodup fun x hx hx' => ?_
    have := (h2.ge x hx).1
    have := (h.ge x hx').2
    omega
  · rcases Nat.lt_or_ge i Rs.length with hl | hl
    · rw [List.getElem?_append_left hl] at hi
      refine re.keep (h.rds i re hi) ⟨h2.base.size, fun b hb hlt => ⟨⟨?_, hb.2⟩, h2.base.block b hlt⟩⟩
      rw [blks_append, List.mem_append]
      rintro (hb' | hb')
      · exact hb.1 hb'
      · have := (h2.ge b hb').1; omega
    · rw [List.getElem?_append_right hl] at hi
      refine re.keep (h2.rds _ re hi) ⟨Nat.le_refl _, fun b hb hlt => ⟨⟨?_, ?_⟩, rfl⟩⟩
      · rw [blks_append, List.mem_append]
        rintro (hb' | hb')
        · rcases hb.2 with h3 | h3
          · exact h3.1 hb'
          · have := (h.ge b hb').2; omega
        · exact hb.1 hb'
      · rcases hb.2 with h3 | h3
        · exact h3.2
        · exact .inr (by omega)
theorem Sep.forgetAll (h : Sep ok0 w0 w L Rs) : Sep ok0 w0 w [] Rs := by
  refine h.step h.base (Nat.le_refl _) (fun i e hi => by simp at hi) (fun b hb => by simp [blks] at hb) (by simp [blks]) fun b hb hl => ⟨by simp [blks], rfl⟩
/-- Nothing is handed on. -/
theorem Sep.none_ (h : Sep ok0 w0 w L Rs) : Sep ok0 w0 w [] [] := (h.forgetAll).less [] fun i re hi => by simp at hi
theorem Rd.any {α : Type} {K : Kd α} {w : World} {ok : Nat → Prop} {A : Option Addr} {c : Nat} {xs : List α} (h : Rd K w ok A c xs) : Rd K w (fun _ => True) A c xs := h.keep ⟨Nat.le_refl _, fun _ _ _ => ⟨trivial, rfl⟩⟩
/-- A nil row. -/
theorem Sep.nilRow (h : Sep ok0 w0 w L Rs) (t sz : Nat) : Sep ok0 w0 w (L ++ [.row (.slice none 0 0) t sz 0 []]) Rs :=
  h.push _ (Below.refl _ w) (World.ownsRow_nil w 0 t sz) (by simp [Ent.blks, Value.ownBlock]) (by simp [Ent.blks, Value.ownBlock])
theorem mem_blks_set' {L : List Ent} {i : Nat} {b : Nat} (h : b ∈ blks (L.set i .hole)) : b ∈ blks L := by
  induction L generalizing i with
  | nil => simpa using h
  | cons x L ih =>
    cases i with
    | zero => exact List.mem_append.2 (.inr (by simpa [blks, Ent.blks] using h))
    | succ i =>
      rcases List.mem_append.1 (show b ∈ x.blks ++ blks (L.set i .hole) from h) with h | h
      · exact List.mem_append.2 (.inl h)
      · exact List.mem_append.2 (.inr (ih h))
theorem nodup_hole {L : List Ent} (i : Nat) (h : (blks L).Nodup) : (blks (L.set i .hole)).Nodup := by
  induction L generalizing i with
  | nil => simpa using h
  | cons x L ih =>
    simp only [blks, List.nodup_append] at h
    cases i with
    | zero => simpa [blks, Ent.blks] using h.2.1
    | succ i =>
      show (x.blks ++ blks (L.set i .hole)).Nodup
      rw [List.nodup_append]
      exact ⟨h.1, ih i h.2.1, fun a ha b hb => h.2.2 a ha b (mem_blks_set' hb)⟩
/-- One of the things is not looked at. -/
theorem Sep.holeL (h : Sep ok0 w0 w L Rs) (i : Nat) : Sep ok0 w0 w (L.set i .hole) Rs := by
  refine h.step h.base (Nat.le_refl _) ?_ (fun b hb => h.ge b (mem_blks_set' hb)) (nodup_hole i h.nodup) fun b hb hl => ⟨fun hb' => hb (mem_blks_set' hb'), rfl⟩
  intro j e hj
  by_cases hij : i = j
  · subst hij
    have hlt : i < L.length := by
      have := (List.getElem?_eq_some_iff.1 hj).1
      simpa using this
    rw [List.getElem?_set_self hlt] at hj
    simp at hj; subst hj; trivial
  · rw [List.getElem?_set_ne hij] at hj; exact h.ents j e hj
theorem Sep.setRe (h : Sep ok0 w0 w L Rs) (j : Nat) {re : RE} (hr : re.rel w (okS ok0 w0 L)) : Sep ok0 w0 w L (Rs.set j re) :=
  ⟨h.base, h.ents, h.ge, h.nodup, fun i re' hi => by
    by_cases hij : j = i
    · subst hij
      have hlt : j < Rs.length := by
        have := (List.getElem?_eq_some_iff.1 hi).1
        simpa using this
      rw [List.getElem?_set_self hlt] at hi
      simp at hi; subst hi; exact hr
    · rw [List.getElem?_set_ne hij] at hi; exact h.rds i re' hi⟩
theorem Sep.holeR (h : Sep ok0 w0 w L Rs) (j : Nat) : Sep ok0 w0 w L (Rs.set j RE.hole) := h.setRe j trivial
theorem Sep.takeL (h : Sep ok0 w0 w L Rs) (m : Nat) : Sep ok0 w0 w (L.take m) Rs := by
  have hsub : ∀ b, b ∈ blks (L.take m) → b ∈ blks L := fun b hb => by
    have := blks_append (L.take m) (L.drop m)
    rw [List.take_append_drop] at this
    rw [this]; exact List.mem_append.2 (.inl hb)
  have hnd : (blks (L.take m)).Nodup := by
    have := blks_append (L.take m) (L.drop m)
    rw [List.take_append_drop] at this
    have h2 := h.nodup
    rw [this, List.nodup_append] at h2
    exact h2.1
  refine h.step h.base (Nat.le_refl _) ?_ (fun b hb => h.ge b (hsub b hb)) hnd fun b hb hl => ⟨fun hb' => hb (hsub b hb'), rfl⟩
  intro j e hj
  rw [List.getElem?_take] at hj
  split at hj
  · exact h.ents j e hj
  · cases hj
theorem Sep.takeR (h : Sep ok0 w0 w L Rs) (m : Nat) : Sep ok0 w0 w L (Rs.take m) :=
  h.less _ fun i re hi => by
    rw [List.getElem?_take] at hi
    split at hi
    · exact ⟨i, hi⟩
    · cases hi
theorem hole_not {L : List Ent} (hn : (blks L).Nodup) {i : Nat} {e : Ent} (hi : L[i]? = some e) {b : Nat} (hb : b ∈ e.blks) : b ∉ blks (L.set i .hole) := by
  intro hb'
  obtain ⟨j, e', hj, hbe⟩ := of_mem_blks hb'
  by_cases hij : i = j
  · subst hij
    have hlt : i < L.length := by
      have := (List.getElem?_eq_some_iff.1 hj).1
      simpa using this
    rw [List.getElem?_set_self hlt] at hj
    simp at hj; subst hj; simp [Ent.blks] at hbe
  · rw [List.getElem?_set_ne hij] at hj
    exact other_blk hn hi hj hij hb hbe
/-- A row of the call's own becomes a slice that may be read. -/
theorem Sep.freeze {α : Type} (h : Sep ok0 w0 w L Rs) {i c t : Nat} {A : Option Addr} {cs : List Value} {K : Kd α} {xs : List α} (hi : L[i]? = some (.row (.slice A xs.length c) t K.sz xs.length cs))
    (hc : Chunks K w (okS ok0 w0 L) cs xs) : Rd K w (okS ok0 w0 (L.set i .hole)) A c xs := by
  have hrow := h.ents i _ hi
  have hm : Mov w w (okS ok0 w0 L) (okS ok0 w0 (L.set i .hole)) := ⟨Nat.le_refl _, fun b hb _ => ⟨⟨fun hb' => hb.1 (mem_blks_set' hb'), hb.2⟩, rfl⟩⟩
  rcases hrow.2 with ⟨hv, h0⟩ | ⟨g, cap, cur, hv, _, hh, hnc, hcm, hcs, htake⟩
  · simp only [Value.slice.injEq] at hv
    obtain ⟨rfl, h0, rfl⟩ := hv
    obtain rfl : xs = [] := List.eq_nil_of_length_eq_zero h0
    exact ⟨by simp, by simp, fun h => absurd rfl h⟩
  · simp only [Value.slice.injEq] at hv
    obtain ⟨rfl, _, rfl⟩ := hv
    refine ⟨by omega, by simp only [maxLen] at hcm; omega, fun _ => ⟨g, 0, rfl, ?_, lt_of_heap hh, fun j x hj => ⟨_, K.keep (hc.at_ j x hj) hm, ?_⟩⟩⟩
    · exact ⟨hole_not h.nodup hi (by simp [Ent.blks, Value.ownBlock]), .inr (h.ge g (mem_blks hi (by simp [Ent.blks, Value.ownBlock]))).1⟩
    · refine CellsAt.of_heap (cur := cur.toList) (t := t) (fr := (0, 0)) (by simpa using hh) fun k v hk => ?_
      rw [← htake, List.getElem?_take] at hk
      split at hk
      · rw [List.getElem?_drop, List.getElem?_take] at hk
        split at hk
        · rw [← hk]; congr 1; omega
        · cases hk
      · cases hk
/-- .. and is one of what may be read. -/
theorem Sep.frozen {α : Type} (h : Sep ok0 w0 w L Rs) {i j c t : Nat} {A : Option Addr} {cs : List Value} {K : Kd α} {xs : List α} (hi : L[i]? = some (.row (.slice A xs.length c) t K.sz xs.length cs)) (hj : Rs[j]? = some (RE.chunks K cs xs)) :
    Sep ok0 w0 w (L.set i .hole) (Rs.set j (RE.rd K A c xs)) :=
  (h.holeL i).setRe j (h.freeze hi (h.rds j _ hj))
theorem Sep.rd {α : Type} {K : Kd α} (h : Sep ok0 w0 w L Rs) {i c : Nat} {A : Option Addr} {xs : List α} (hi : Rs[i]? = some (RE.rd K A c xs)) : Rd K w (okS ok0 w0 L) A c xs := h.rds i _ hi
/-- A row of the call's own, read by a callee that hands on nothing. -/
theorem Sep.rowRd {α : Type} (h : Sep ok0 w0 w L Rs) {i j c t : Nat} {A : Option Addr} {cs : List Value} {K : Kd α} {xs : List α} (hi : L[i]? = some (.row (.slice A xs.length c) t K.sz xs.length cs)) (hj : Rs[j]? = some (RE.chunks K cs xs)) : Rd K w (fun _ => True) A c xs :=
  (h.freeze hi (h.rds j _ hj)).any
theorem Rd.nil {α : Type} {K : Kd α} {w : World} {ok : Nat → Prop} {A : Option Addr} {c : Nat} (hc : c ≤ 9223372036854775807) : Rd K w ok A c [] := ⟨Nat.zero_le _, hc, fun h => absurd rfl h⟩
end
end Go.Proofs.YtobkigllalbkiaaV
