/- Slices cut out of slices, and copy(). Nothing here names a program. -/
import Derived.Test.YtobkigllalbkiaaVMore
import Derived.Laws.CopyRow
set_option linter.unusedVariables false
set_option linter.unusedSimpArgs false
namespace Go.Proofs.YtobkigllalbkiaaV
open Go.RowKit

/-- Where a slice begins that is cut out of one. -/
def slA (A : Option Addr) (m l sz : Nat) : Option Addr := if m = l then A else A.map (·.add (l * sz))
section
variable {P : Program} {r : Regs} {w : World} {dst : Option Tmp} {ty : TypeId} {pos : String} {af : Array Edge} {gd : Option (Nat × Bool)}
theorem run_slice_lo {t e : TypeId} {sz n c : Nat} {A : Option Addr} {k : IntKind} {j : Int} (hu : slElem P t = some e) (hz : szOf P e = some sz) (h0 : 0 ≤ j) (h1 : j ≤ (n : Int)) :
    (Instr.sliceAt t (.slice A n c) (some (.int k j)) none none).run P w = .ok (.slice (slA A c j.toNat sz) (n - j.toNat) (c - j.toNat)) w := by
  unfold szOf at hz
  obtain ⟨inf, hq, hsz⟩ := Option.map_eq_some_iff.1 hz
  have hu' := slElem_un hu
  simp [Instr.sliceAt, run_underlying hu', Instr.slice, Instr.sliceBounds, run_sliceBound, h0, h1, sizeOf, typeInfo, hq, hsz, slA]
theorem x_slice_lo {x i : Operand} {t e : TypeId} {sz n c : Nat} {A : Option Addr} {k : IntKind} {j : Int} (hu : slElem P t = some e) (hz : szOf P e = some sz) (hx : ev r x = .slice A n c) (hi : ev r i = .int k j) (h0 : 0 ≤ j) (h1 : j ≤ (n : Int)) :
    (execOp (ev r) ⟨dst, .slice t x (some i) none none, ty, pos, af, gd⟩).run P w = .ok (.value (.slice (slA A c j.toNat sz) (n - j.toNat) (c - j.toNat))) w := by
  simp only [execOp, hx, hi, Option.map_some, Option.map_none, Sem.run_bind, run_slice_lo hu hz h0 h1, Result.andThen_ok, Sem.run_pure]
theorem x_slice_hi {x i : Operand} {t e : TypeId} {sz n c : Nat} {A : Option Addr} {k : IntKind} {j : Int} (hu : slElem P t = some e) (hz : szOf P e = some sz) (hx : ev r x = .slice A n c) (hi : ev r i = .int k j) (h0 : 0 ≤ j) (h1 : j ≤ (c : Int)) :
    (execOp (ev r) ⟨dst, .slice t x none (some i) none, ty, pos, af, gd⟩).run P w = .ok (.value (.slice (slA A c 0 sz) j.toNat c)) w := by
  unfold szOf at hz
  obtain ⟨inf, hq, hsz⟩ := Option.map_eq_some_iff.1 hz
  have hu' := slElem_un hu
  simp [execOp, hx, hi, Instr.sliceAt, run_underlying hu', Instr.slice, Instr.sliceBounds, run_sliceBound, h0, h1, sizeOf, typeInfo, hq, hsz, slA]
theorem x_slice_lh {x i i2 : Operand} {t e : TypeId} {sz n c : Nat} {A : Option Addr} {k k2 : IntKind} {j j2 : Int} (hu : slElem P t = some e) (hz : szOf P e = some sz) (hx : ev r x = .slice A n c) (hi : ev r i = .int k j) (hi2 : ev r i2 = .int k2 j2) (h0 : 0 ≤ j) (h1 : j ≤ j2) (h2 : j2 ≤ (c : Int)) :
    (execOp (ev r) ⟨dst, .slice t x (some i) (some i2) none, ty, pos, af, gd⟩).run P w = .ok (.value (.slice (slA A c j.toNat sz) (j2.toNat - j.toNat) (c - j.toNat))) w := by
  unfold szOf at hz
  obtain ⟨inf, hq, hsz⟩ := Option.map_eq_some_iff.1 hz
  have hu' := slElem_un hu
  have h3 : 0 ≤ j2 := Int.le_trans h0 h1
  have h4 : j ≤ (j2.toNat : Int) := by omega
  have hb := run_sliceBound (P := P) w k j j2.toNat .sliceB h0 h4
  simp [execOp, hx, hi, hi2, Instr.sliceAt, run_underlying hu', Instr.slice, Instr.sliceBounds, run_sliceBound (P := P) w k2 j2 c .sliceAcap h3 h2, hb, sizeOf, typeInfo, hq, hsz, slA]
end
section
variable {α : Type} {K : Kd α} {w : World} {ok : Nat → Prop}
theorem Chunks.takeN : ∀ {cs : List Value} {xs : List α} (m : Nat), Chunks K w ok cs xs → Chunks K w ok (cs.take (m * K.sz)) (xs.take m)
  | cs, [], m, h => by
    have : cs = [] := h
    subst this; simp; rfl
  | cs, x :: xs, 0, h => by simp; rfl
  | cs, x :: xs, m + 1, h => by
    obtain ⟨ce, rest, rfl, hl, hx, h2⟩ := h.split
    have ih := Chunks.takeN m h2
    have e1 : (m + 1) * K.sz = ce.length + m * K.sz := by rw [hl, Nat.add_mul]; omega
    rw [e1, List.take_length_add_append, List.take_succ_cons]
    exact Chunks.join hx ih
theorem Chunks.dropN : ∀ {cs : List Value} {xs : List α} (m : Nat), Chunks K w ok cs xs → Chunks K w ok (cs.drop (m * K.sz)) (xs.drop m)
  | cs, [], m, h => by
    have : cs = [] := h
    subst this; simp; rfl
  | cs, x :: xs, 0, h => by simpa using h
  | cs, x :: xs, m + 1, h => by
    obtain ⟨ce, rest, rfl, hl, hx, h2⟩ := h.split
    have ih := Chunks.dropN m h2
    have e1 : (m + 1) * K.sz = ce.length + m * K.sz := by rw [hl, Nat.add_mul]; omega
    rw [e1, List.drop_length_add_append, List.drop_succ_cons]
    exact ih
/-- Where the elements of what is copied lie. -/
def SrcAt (K : Kd α) (w : World) (ok : Nat → Prop) (A : Option Addr) (zs : List α) : Prop :=
  (zs = []) ∨ ∃ g o news, A = some ⟨g, o, none⟩ ∧ CellsAt w g o news ∧ Chunks K w ok news zs
theorem Rd.src {A : Option Addr} {c : Nat} {xs : List α} (h : Rd K w ok A c xs) : SrcAt K w ok A xs := by
  by_cases hne : xs = []
  · exact .inl hne
  · obtain ⟨g, o, hA, _⟩ := h.2.2 hne
    subst hA
    obtain ⟨news, h1, h2⟩ := h.chunks
    exact .inr ⟨g, o, news, rfl, h1, h2⟩
/-- A copy's outcome. -/
def cpyV (xs : List α) (lo dn : Nat) (zs : List α) : List α := xs.take lo ++ zs.take (min zs.length dn) ++ xs.drop (lo + min zs.length dn)
theorem length_cpyV {xs zs : List α} {lo dn : Nat} (h : lo + dn ≤ xs.length) : (cpyV xs lo dn zs).length = xs.length := by
  simp [cpyV]; omega
end
section
variable {ok0 : Nat → Prop} {w0 w w' : World} {L : List Ent} {Rs : List RE}
/-- What a row of its own begins at. -/
theorem Sep.rowForm {α : Type} {D : Kd α} {i e c : Nat} {A : Option Addr} {cs : List Value} {xs : List α} (H : Sep ok0 w0 w L Rs) (hi : L[i]? = some (.row (.slice A xs.length c) e D.sz xs.length cs)) :
    xs.length ≤ c ∧ (A = none ∧ xs = [] ∧ c = 0 ∨ ∃ g, A = some ⟨g, 0, none⟩) := by
  have hrow := H.ents i _ hi
  rcases hrow.2 with ⟨hv, h0⟩ | ⟨g, cap, cur, hv, _, hh, hnc, _⟩
  · simp only [Value.slice.injEq] at hv
    obtain ⟨rfl, h1, rfl⟩ := hv
    have : xs = [] := List.eq_nil_of_length_eq_zero h1
    subst this
    exact ⟨by simp, .inl ⟨rfl, rfl, rfl⟩⟩
  · simp only [Value.slice.injEq] at hv
    obtain ⟨rfl, _, rfl⟩ := hv
    exact ⟨hnc, .inr ⟨g, rfl⟩⟩
theorem Sep.rowA0 {α : Type} {D : Kd α} {i e c : Nat} {A : Option Addr} {cs : List Value} {xs : List α} (H : Sep ok0 w0 w L Rs) (hi : L[i]? = some (.row (.slice A xs.length c) e D.sz xs.length cs)) : A = slA A c 0 D.sz := by
  rcases (H.rowForm hi).2 with ⟨rfl, _⟩ | ⟨g, rfl⟩
  · unfold slA; split <;> rfl
  · unfold slA; split <;> simp [add_plain]
theorem Sep.rowCells {α : Type} {D : Kd α} {i e c g : Nat} {cs : List Value} {xs : List α} (H : Sep ok0 w0 w L Rs) (hi : L[i]? = some (.row (.slice (some ⟨g, 0, none⟩) xs.length c) e D.sz xs.length cs)) : CellsAt w g 0 cs := by
  have hrow := H.ents i _ hi
  have h2 : w.ownsRow 0 e D.sz (.slice (some ⟨g, 0, none⟩) xs.length c) xs.length cs := hrow
  intro j v hj
  have := h2.cells (g := g) rfl j v hj
  simpa [add_plain] using this
theorem Sep.rowPut {P : Program} {α : Type} {D : Kd α} {i j e c g off : Nat} {cs vs : List Value} {xs ys : List α} (H : Sep ok0 w0 w L Rs) (hi : L[i]? = some (.row (.slice (some ⟨g, 0, none⟩) xs.length c) e D.sz xs.length cs)) (hj : Rs[j]? = some (RE.chunks D cs xs))
    (hle : off + vs.length ≤ xs.length * D.sz) (h1 : ∀ u ∈ vs, u.oneCell' = true) (hput : Chunks D w (okS ok0 w0 L) (cs.take off ++ vs ++ cs.drop (off + vs.length)) ys) (hyl : ys.length = xs.length) :
    ∃ w', (storeCells ⟨g, off, none⟩ vs).run P w = .ok () w' ∧ Sep ok0 w0 w' (L.set i (.row (.slice (some ⟨g, 0, none⟩) ys.length c) e D.sz ys.length (cs.take off ++ vs ++ cs.drop (off + vs.length)))) (Rs.set j (RE.chunks D (cs.take off ++ vs ++ cs.drop (off + vs.length)) ys)) := by
  have hrow := H.ents i _ hi
  rcases hrow.2 with ⟨hv0, h0⟩ | ⟨g', cap, cur, hv0, hge, hh, hnc, hcm, hcs, htake⟩
  · simp at hv0
  · simp only [Value.slice.injEq, Option.some.injEq, Addr.mk.injEq, and_true, true_and] at hv0
    obtain ⟨rfl, rfl⟩ := hv0
    have hcap : xs.length * D.sz ≤ c * D.sz := Nat.mul_le_mul_right _ hnc
    have hcl : cs.length = xs.length * D.sz := hrow.1
    have hst := run_storeCells_at P g off e vs 0 cur w hh (by omega) h1
    simp only [Nat.add_zero] at hst
    refine ⟨_, hst, ?_⟩
    have hS := H.upd_ (w' := w.setRow g (cur.toList.take off ++ vs ++ cur.toList.drop (off + vs.length)).toArray) (e' := .row (.slice (some ⟨g, 0, none⟩) ys.length c) e D.sz ys.length (cs.take off ++ vs ++ cs.drop (off + vs.length))) hi rfl
      ⟨hput.len, .inr ⟨g, c, _, rfl, hge, setRow_heap w g cur _ e (0, 0) hh, by omega, hcm, by simp; omega, ?_⟩⟩ (by simp [World.setRow]) rfl rfl rfl fun k hk => setRow_other w g k _ (by simpa [Ent.blks, Value.ownBlock] using hk)
    · refine hS.setR j ?_
      refine (RE.chunks D _ _).keep (w := w) (ok := okS ok0 w0 L) hput ⟨by simp [World.setRow], fun b hb hlt' => ⟨⟨?_, hb.2⟩, setRow_other w g b _ fun he => hb.1 (mem_blks hi (by simp [Ent.blks, Value.ownBlock, he]))⟩⟩
      rw [blks_set (e := .row (.slice (some ⟨g, 0, none⟩) xs.length c) e D.sz xs.length cs) hi (by rfl)]; exact hb.1
    · rw [hyl, ← htake]
      have hcur : (cur.toList.take (xs.length * D.sz)).length = xs.length * D.sz := by simp; omega
      simp only [List.toList_toArray] at *
      rw [List.take_append, List.take_append, List.take_take, List.take_take, List.drop_take]
      simp only [List.length_append, List.length_take, Array.length_toList]
      rw [show min (xs.length * D.sz) off = off by omega, show min off (xs.length * D.sz) = off by omega,
        show min off cur.size = off by omega, List.take_of_length_le (l := vs) (by omega),
        show xs.length * D.sz - (off + vs.length) = xs.length * D.sz - (off + vs.length) from rfl]
/-- A part of a row of its own, as what is copied. -/
theorem Sep.rowSrc {α : Type} {D : Kd α} {i j e c lo : Nat} {A : Option Addr} {cs : List Value} {xs : List α} (H : Sep ok0 w0 w L Rs) (hi : L[i]? = some (.row (.slice A xs.length c) e D.sz xs.length cs)) (hj : Rs[j]? = some (RE.chunks D cs xs)) :
    SrcAt D w (okS ok0 w0 L) (slA A c lo D.sz) (xs.drop lo) := by
  obtain ⟨hc, hA⟩ := H.rowForm hi
  have hch : Chunks D w (okS ok0 w0 L) cs xs := H.rds j _ hj
  rcases hA with ⟨rfl, rfl, rfl⟩ | ⟨g, rfl⟩
  · exact .inl (by simp)
  · by_cases hl : c = lo
    · exact .inl (List.drop_eq_nil_of_le (by omega))
    · refine .inr ⟨g, lo * D.sz, cs.drop (lo * D.sz), by simp [slA, hl, add_plain], fun j v hj => ?_, hch.dropN lo⟩
      rw [List.getElem?_drop] at hj
      have := H.rowCells hi (lo * D.sz + j) v hj
      simpa using this
theorem SrcAt.takeN {α : Type} {D : Kd α} {ok : Nat → Prop} {A : Option Addr} {zs : List α} (h : SrcAt D w ok A zs) (m : Nat) : SrcAt D w ok A (zs.take m) := by
  rcases h with rfl | ⟨g, o, news, hA, hc, hch⟩
  · exact .inl (by simp)
  · refine .inr ⟨g, o, news.take (m * D.sz), hA, fun j v hj => ?_, hch.takeN m⟩
    rw [List.getElem?_take] at hj
    split at hj
    · exact hc j v hj
    · cases hj
end
section
variable {P : Program} {ops : Array Oper} {n : Nat} {r : Regs} {ok0 : Nat → Prop} {w0 w : World} {K : Regs → World → Prop} {L : List Ent} {Rs : List RE} {d : Nat} {ty : TypeId} {pos : String} {af : Array Edge} {gd : Option (Nat × Bool)}
/-- copy(v[lo:..], s), into a row of the call's own. -/
theorem O_copy {α : Type} {D : Kd α} {x y : Operand} {td ts e i j c c2 dc lo dn m : Nat} {A A2 A3 : Option Addr} {cs : List Value} {xs ys zs : List α}
    (hw : wantedR ops r ⟨some d, .call { callee := .builtin .copy, args := #[x, y], argTypes := #[td, ts] }, ty, pos, af, gd⟩ = true) (hn : Nat.blt d n = true)
    (hx : ev r x = .slice A3 dn dc) (hA3 : A3 = slA A c lo D.sz) (hy : ev r y = .slice A2 m c2) (hm : m = zs.length) (H : Sep ok0 w0 w L Rs) (hi : L[i]? = some (.row (.slice A xs.length c) e D.sz xs.length cs)) (hj : Rs[j]? = some (RE.chunks D cs xs))
    (hle : lo + dn ≤ xs.length) (hsrc : SrcAt D w (okS ok0 w0 L) A2 zs) (hu : slElem P td = some e) (hz : szOf P e = some D.sz) (hys : cpyV xs lo dn zs = ys)
    (h : ∀ w' cs', Sep ok0 w0 w' (L.set i (.row (.slice A ys.length c) e D.sz ys.length cs')) (Rs.set j (RE.chunks D cs' ys)) → K (upd r d (.int .i64 (min zs.length dn : Nat))) w') :
    OpR P ops n ⟨some d, .call { callee := .builtin .copy, args := #[x, y], argTypes := #[td, ts] }, ty, pos, af, gd⟩ r w K := by
  subst hm; subst hA3
  unfold szOf at hz
  obtain ⟨inf, hq, hsz⟩ := Option.map_eq_some_iff.1 hz
  have hu' := slElem_un hu
  obtain ⟨hc, hA⟩ := H.rowForm hi
  have hch : Chunks D w (okS ok0 w0 L) cs xs := H.rds j _ hj
  have hyl : ys.length = xs.length := by subst hys; exact length_cpyV hle
  have hlen : cs.length = xs.length * D.sz := hch.len
  by_cases hk : min zs.length dn = 0
  · -- nothing is copied
    have hxy : ys = xs := by subst hys; simp [cpyV, hk]
    have hcopy : (Builtin.copy_ #[td, ts] ty #[.slice (slA A c lo D.sz) dn dc, .slice A2 zs.length c2]).run P w = .ok (.int .i64 0) w := by
      have hmin : zs.length.min dn = 0 := hk
      have hfc : (Builtin.firstCells inf.size 0 (.slice A2 zs.length c2)).run P w = .ok #[] w := by
        cases A2 with
        | none => exact run_firstCells_none w _ _ _ _
        | some a =>
          have := run_firstCells_some (P := P) w inf.size 0 a zs.length c2 [] (by simp) (fun j v hj => by simp at hj)
          simpa using this
      cases hs : slA A c lo D.sz with
      | none => simp [Builtin.copy_, run_underlying hu', Builtin.lenOf, hmin, sizeOf, typeInfo, hq, hfc, goInt]
      | some a => simp [Builtin.copy_, run_underlying hu', Builtin.lenOf, hmin, sizeOf, typeInfo, hq, hfc, goInt, storeCells]
    refine OpR_val hw rfl hn (v := .int .i64 (min zs.length dn : Nat)) (w' := w) ?_ (h w cs ?_)
    · rw [hk]; simp [execOp, resolve, invoke, builtin, hx, hy, hcopy]
    · rw [hxy]
      have e1 : L.set i (.row (.slice A xs.length c) e D.sz xs.length cs) = L := by
        apply List.ext_getElem?
        intro k
        by_cases hik : i = k
        · subst hik
          have hlt := (List.getElem?_eq_some_iff.1 hi).1
          rw [List.getElem?_set_self hlt, hi]
        · rw [List.getElem?_set_ne hik]
      have e2 : Rs.set j (RE.chunks D cs xs) = Rs := by
        apply List.ext_getElem?
        intro k
        by_cases hjk : j = k
        · subst hjk
          have hlt := (List.getElem?_eq_some_iff.1 hj).1
          rw [List.getElem?_set_self hlt, hj]
        · rw [List.getElem?_set_ne hjk]
      rw [e1, e2]; exact H
  · have hkp : 0 < min zs.length dn := Nat.pos_of_ne_zero hk
    obtain ⟨g, rfl⟩ : ∃ g, A = some ⟨g, 0, none⟩ := by
      rcases hA with ⟨_, rfl, _⟩ | h
      · simp at hle; omega
      · exact h
    obtain ⟨g2, o2, news, rfl, hat, hcn⟩ : ∃ g o news, A2 = some ⟨g, o, none⟩ ∧ CellsAt w g o news ∧ Chunks D w (okS ok0 w0 L) news zs := by
      rcases hsrc with rfl | h
      · simp at hkp
      · exact h
    have hcl : c ≠ lo := by omega
    have hs : slA (some ⟨g, 0, none⟩) c lo D.sz = some ⟨g, lo * D.sz, none⟩ := by simp [slA, hcl, add_plain]
    have hnl : news.length = zs.length * D.sz := hcn.len
    have hkz : min zs.length dn * D.sz ≤ news.length := by rw [hnl]; exact Nat.mul_le_mul_right _ (Nat.min_le_left _ _)
    have htl : (news.take (min zs.length dn * D.sz)).length = min zs.length dn * D.sz := by rw [List.length_take]; omega
    have hfc := run_firstCells_some (P := P) w D.sz (min zs.length dn) ⟨g2, o2, none⟩ zs.length c2 (news.take (min zs.length dn * D.sz)) htl (fun j v hj => by
      rw [List.getElem?_take] at hj
      split at hj
      · rw [add_plain]; exact hat j v hj
      · cases hj)
    have hle2 : lo * D.sz + min zs.length dn * D.sz ≤ xs.length * D.sz := by
      rw [← Nat.add_mul]; exact Nat.mul_le_mul_right _ (by omega)
    have hput : Chunks D w (okS ok0 w0 L) (cs.take (lo * D.sz) ++ news.take (min zs.length dn * D.sz) ++ cs.drop (lo * D.sz + (news.take (min zs.length dn * D.sz)).length)) ys := by
      subst hys
      rw [htl, ← Nat.add_mul]
      exact ((hch.takeN lo).app (hcn.takeN _)).app (hch.dropN _)
    obtain ⟨w', hst, hS⟩ := H.rowPut (P := P) hi hj (off := lo * D.sz) (vs := news.take (min zs.length dn * D.sz)) (by rw [htl]; exact hle2) (hcn.takeN _).one hput hyl
    refine OpR_val hw rfl hn (v := .int .i64 (min zs.length dn : Nat)) (w' := w') ?_ (h _ _ hS)
    have hcopy : (Builtin.copy_ #[td, ts] ty #[.slice (some ⟨g, lo * D.sz, none⟩) dn dc, .slice (some ⟨g2, o2, none⟩) zs.length c2]).run P w = .ok (.int .i64 (min zs.length dn : Nat)) w' := by
      have hmin : zs.length.min dn = min zs.length dn := rfl
      simp [Builtin.copy_, run_underlying hu', Builtin.lenOf, hmin, sizeOf, typeInfo, hq, hsz, hfc, goInt, hst]
    rw [hs] at hx
    simp [execOp, resolve, invoke, builtin, hx, hy, hcopy]
end
section
variable {P : Program} {r : Regs} {w : World} {dst : Option Tmp} {ty : TypeId} {pos : String} {af : Array Edge} {gd : Option (Nat × Bool)}
theorem x_slice_loL {α : Type} {x i : Operand} {t e : TypeId} {sz c : Nat} {A : Option Addr} {k : IntKind} {j : Int} {xs : List α} (hu : slElem P t = some e) (hz : szOf P e = some sz) (hx : ev r x = .slice A xs.length c) (hi : ev r i = .int k j) (h0 : 0 ≤ j) (h1 : j ≤ (xs.length : Int)) :
    (execOp (ev r) ⟨dst, .slice t x (some i) none none, ty, pos, af, gd⟩).run P w = .ok (.value (.slice (slA A c j.toNat sz) (xs.drop j.toNat).length (c - j.toNat))) w := by
  rw [List.length_drop]; exact x_slice_lo hu hz hx hi h0 h1
theorem x_slice_hiL {α : Type} {x i : Operand} {t e : TypeId} {sz c : Nat} {A : Option Addr} {k : IntKind} {j : Int} {xs : List α} (hu : slElem P t = some e) (hz : szOf P e = some sz) (hx : ev r x = .slice A xs.length c) (hi : ev r i = .int k j) (h0 : 0 ≤ j) (h1 : j ≤ (xs.length : Int)) (hc : xs.length ≤ c) :
    (execOp (ev r) ⟨dst, .slice t x none (some i) none, ty, pos, af, gd⟩).run P w = .ok (.value (.slice (slA A c 0 sz) (xs.take j.toNat).length c)) w := by
  rw [List.length_take, Nat.min_eq_left (by omega)]; exact x_slice_hi hu hz hx hi h0 (by omega)
theorem drop_le {α : Type} {xs : List α} {j : Int} (h0 : 0 ≤ j) (h1 : j ≤ (xs.length : Int)) : j.toNat + (xs.drop j.toNat).length ≤ xs.length := by rw [List.length_drop]; omega
theorem take_le {α : Type} {xs : List α} {j : Int} (h0 : 0 ≤ j) (h1 : j ≤ (xs.length : Int)) : 0 + (xs.take j.toNat).length ≤ xs.length := by rw [List.length_take]; omega
end
theorem Rd.takeN {α : Type} {K : Kd α} {w : World} {ok : Nat → Prop} {A : Option Addr} {c : Nat} {xs : List α} (h : Rd K w ok A c xs) {m : Nat} : Rd K w ok (slA A c 0 K.sz) c (xs.take m) := by
  refine ⟨by rw [List.length_take]; have := h.1; omega, h.2.1, fun hne => ?_⟩
  have hne' : xs ≠ [] := by rintro rfl; simp at hne
  obtain ⟨g, o, rfl, hg, hlt, hc⟩ := h.2.2 hne'
  refine ⟨g, o, by unfold slA; split <;> simp [add_plain], hg, hlt, fun i x hi => ?_⟩
  rw [List.getElem?_take] at hi
  split at hi
  · exact hc i x hi
  · cases hi
theorem Rd.dropN {α : Type} {K : Kd α} {w : World} {ok : Nat → Prop} {A : Option Addr} {c : Nat} {xs : List α} (h : Rd K w ok A c xs) {m : Nat} : Rd K w ok (slA A c m K.sz) (c - m) (xs.drop m) := by
  refine ⟨by rw [List.length_drop]; have := h.1; omega, by have := h.2.1; omega, fun hne => ?_⟩
  have hne' : xs ≠ [] := by rintro rfl; simp at hne
  have hlen : m < xs.length := by
    rcases Nat.lt_or_ge m xs.length with h | h
    · exact h
    · exact absurd (List.drop_eq_nil_of_le h) hne
  obtain ⟨g, o, rfl, hg, hlt, hc⟩ := h.2.2 hne'
  have hcm : c ≠ m := by have := h.1; omega
  refine ⟨g, o + m * K.sz, by simp [slA, hcm, add_plain], hg, hlt, fun i x hi => ?_⟩
  rw [List.getElem?_drop] at hi
  obtain ⟨cs, hk, hat⟩ := hc (m + i) x hi
  refine ⟨cs, hk, ?_⟩
  rwa [Nat.add_mul, ← Nat.add_assoc] at hat
end Go.Proofs.YtobkigllalbkiaaV
