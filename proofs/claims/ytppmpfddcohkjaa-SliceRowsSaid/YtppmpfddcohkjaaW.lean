/- Stores, and the like. -/
import Derived.Test.YtppmpfddcohkjaaGain
import Derived.Maps.AppendAt
namespace Go.Proofs.YtppmpfddcohkjaaA
open Go

section
variable {elid : El → Nat} {n : Nat} {w w' w'' : World} {g g' g'' : Gh} {S : St} {a : Act} {P : Program}

theorem oneCell {b : AV} {v : Value} (h : RepA w g b v) (hb : b.isCell = true) : v.oneCell' = true := by
  cases h <;> first | rfl | (simp [AV.isCell] at hb; done) | (rename_i h; cases h; rfl)
theorem allCells_mem {l : List AV} (h : allCells l = true) : ∀ b ∈ l, b.isCell = true := by
  induction l with
  | nil => intro b hb; simp at hb
  | cons c l ih =>
    simp only [allCells, Bool.and_eq_true] at h
    intro b hb
    rcases List.mem_cons.mp hb with rfl | hb
    · exact h.1
    · exact ih h.2 b hb
theorem RepL.one {l : List AV} {vs : List Value} (hl : RepL w g l vs) (h : ∀ b ∈ l, b.isCell = true) : ∀ v ∈ vs, v.oneCell' = true := by
  intro v hv
  obtain ⟨j, hj, rfl⟩ := List.mem_iff_getElem.mp hv
  have hj' : j < l.length := by rw [← hl.1]; exact hj
  exact oneCell (hl.2 j hj' hj) (h _ (List.getElem_mem hj'))
theorem cells_isCell (t : El) (x : t.den) : ∀ b ∈ t.cells x, b.isCell = true := by
  intro b hb
  cases t <;> simp [El.cells] at hb <;> (first | (subst hb; rfl) | (rcases hb with h | h | h | h | h | h | h <;> subst h <;> rfl) | (rcases hb with h | h | h | h <;> subst h <;> rfl) | (rcases hb with h | h | h <;> subst h <;> rfl))
theorem flat_isCell (t : El) (xs : List t.den) : ∀ b ∈ flat t xs, b.isCell = true := by
  intro b hb
  simp only [flat, List.mem_flatMap] at hb
  obtain ⟨x, _, hx⟩ := hb
  exact cells_isCell t x b hx

/-! ### Cells set one by one -/
theorem setCells_other (b : Nat) : ∀ (vs : List Value) (o : Nat) (w : World) (k : Nat), k ≠ b → (w.setCells b o vs).heap[k]? = w.heap[k]?
  | [], _, _, _, _ => rfl
  | v :: vs, o, w, k, h => by
    rw [World.setCells, setCells_other b vs _ _ k h]
    exact heap_setCell_other w ⟨b, o, none⟩ k v h
theorem setCells_world (b : Nat) : ∀ (vs : List Value) (o : Nat) (w : World), (w.setCells b o vs).os = w.os ∧ (w.setCells b o vs).tape = w.tape ∧ (w.setCells b o vs).output = w.output ∧ (w.setCells b o vs).heap.size = w.heap.size
  | [], _, _ => ⟨rfl, rfl, rfl, rfl⟩
  | v :: vs, o, w => by
    obtain ⟨h1, h2, h3, h4⟩ := setCells_world b vs (o + 1) (w.setCell ⟨b, o, none⟩ v)
    rw [World.setCells]
    exact ⟨h1.trans rfl, h2.trans rfl, h3.trans rfl, h4.trans (by simp)⟩
theorem chg_setCells (w : World) (b o : Nat) (vs : List Value) : Chg w (w.setCells b o vs) fun b' o' => b' = b ∧ o ≤ o' ∧ o' < o + vs.length := by
  obtain ⟨h1, h2, h3, h4⟩ := setCells_world b vs o w
  refine ⟨h1, h2, h3, by rw [h4]; exact Nat.le_refl _, fun k hk hn => ?_, fun k q hk hn => ?_, fun k q hk hn => World.frozen?_setCells b vs o w _⟩
  · by_cases hkb : k = b
    · cases vs with
      | nil => rfl
      | cons v vs => exact absurd ⟨hkb, Nat.le_refl o, by simp⟩ (hn o)
    · exact setCells_other b vs o w k hkb
  · refine World.cell?_setCells_out b vs o w _ fun h _ => ?_
    have h' : k = b := h
    have : ¬ (o ≤ q ∧ q < o + vs.length) := fun h => hn ⟨h', h⟩
    show q < o ∨ o + vs.length ≤ q
    omega

theorem setRange_cons {α : Type} (l : List α) (o : Nat) (v : α) (vs : List α) (h : o + (vs.length + 1) ≤ l.length) : setRange (l.set o v) (o + 1) vs = setRange l o (v :: vs) := by
  apply List.ext_getElem?
  intro j
  unfold setRange
  simp only [List.append_assoc, List.getElem?_append, List.length_take, List.length_set, List.getElem?_take, List.getElem?_drop, List.getElem?_set, List.length_cons]
  have h1 : min (o + 1) l.length = o + 1 := by omega
  have h2 : min o l.length = o := by omega
  rw [h1, h2]
  rcases Nat.lt_trichotomy j o with hj | hj | hj
  · have : j < o + 1 := by omega
    simp [this, hj]; omega
  · subst hj
    have : j < l.length := by omega
    simp [this]
  · have a1 : ¬ j < o + 1 := by omega
    have a2 : ¬ j < o := by omega
    rw [if_neg a1, if_neg a2]
    have a3 : j - o = (j - (o + 1)) + 1 := by omega
    rw [a3, List.getElem?_cons_succ]
    by_cases hin : j - (o + 1) < vs.length
    · have : j - (o + 1) + 1 < vs.length + 1 := by omega
      simp [hin]
    · have : ¬ (j - (o + 1) + 1 < vs.length + 1) := by omega
      simp only [hin, this, if_false]
      have : ¬ o = o + 1 + vs.length + (j - (o + 1) - vs.length) := by omega
      simp only [this, if_false]
      congr 1; omega
theorem setRange_length {α : Type} (l : List α) (o : Nat) (vs : List α) (h : o + vs.length ≤ l.length) : (setRange l o vs).length = l.length := by
  simp only [setRange, List.length_append, List.length_take, List.length_drop]; omega
theorem setRange_get {α : Type} (l : List α) (o : Nat) (vs : List α) (h : o + vs.length ≤ l.length) (j : Nat) : (setRange l o vs)[j]? = if o ≤ j ∧ j < o + vs.length then vs[j - o]? else l[j]? := by
  unfold setRange
  have h1 : (l.take o).length = o := by simp; omega
  rw [List.append_assoc]
  rcases Nat.lt_or_ge j o with hj | hj
  · rw [List.getElem?_append_left (by omega), if_neg (by omega), List.getElem?_take, if_pos hj]
  · rw [List.getElem?_append_right (by omega), h1]
    rcases Nat.lt_or_ge (j - o) vs.length with h2 | h2
    · rw [List.getElem?_append_left h2, if_pos (by omega)]
    · rw [List.getElem?_append_right h2, if_neg (by omega), List.getElem?_drop]
      congr 1; omega

theorem ownsRow_setCells {e size b m cap : Nat} : ∀ (vs : List Value) (o : Nat) (w : World) (xs : List Value), w.ownsRow 0 e size (.slice (some ⟨b, 0, none⟩) m cap) m xs → o + vs.length ≤ xs.length →
    (w.setCells b o vs).ownsRow 0 e size (.slice (some ⟨b, 0, none⟩) m cap) m (setRange xs o vs)
  | [], o, w, xs, h, _ => by simpa [setRange, World.setCells] using h
  | v :: vs, o, w, xs, h, hl => by
    have h1 := (h.stored o v).1
    have h2 := ownsRow_setCells vs (o + 1) _ _ h1 (by simp at hl ⊢; omega)
    rw [setRange_cons xs o v vs (by simpa using hl)] at h2
    exact h2

theorem flat_set (t : El) (xs : List t.den) (i : Nat) (y : t.den) (hi : i < xs.length) : flat t (xs.set i y) = setRange (flat t xs) (i * t.size) (t.cells y) := by
  have hlen : i * t.size + (t.cells y).length ≤ (flat t xs).length := by
    rw [cells_length, flat_length]
    have : (i + 1) * t.size ≤ xs.length * t.size := Nat.mul_le_mul_right _ hi
    rw [Nat.add_mul] at this; omega
  apply List.ext_getElem?
  intro j
  rw [setRange_get _ _ _ hlen, cells_length]
  have hs := size_pos t
  have hm : j % t.size < t.size := Nat.mod_lt _ hs
  have hjd : j = j / t.size * t.size + j % t.size := by rw [Nat.mul_comm]; exact (Nat.div_add_mod j t.size).symm
  by_cases hq : j / t.size < xs.length
  · have e1 : ∀ ys : List t.den, (hy : j / t.size < ys.length) → (flat t ys)[j]? = (t.cells ys[j / t.size])[j % t.size]? := by
      intro ys hy
      have := flat_get t ys (j / t.size) ys[j / t.size] (j % t.size) (List.getElem?_eq_getElem hy) hm
      rw [← hjd] at this; exact this
    rw [e1 (xs.set i y) (by simpa using hq), e1 xs hq]
    by_cases hji : j / t.size = i
    · subst hji
      rw [if_pos (by omega)]
      simp only [List.getElem_set_self]
      congr 1; omega
    · have : ¬ (i * t.size ≤ j ∧ j < i * t.size + t.size) := by
        rintro ⟨h1, h2⟩
        apply hji
        have h3 : i ≤ j / t.size := (Nat.le_div_iff_mul_le hs).2 h1
        have h4 : j / t.size < i + 1 := (Nat.div_lt_iff_lt_mul hs).2 (by rw [Nat.add_mul, Nat.one_mul]; exact h2)
        omega
      rw [if_neg this, List.getElem_set_ne (fun e => hji e.symm)]
  · have hb : xs.length * t.size ≤ j := by
      have := (Nat.le_div_iff_mul_le hs).1 (Nat.le_of_not_lt hq)
      exact this
    have hn : ¬ (i * t.size ≤ j ∧ j < i * t.size + t.size) := by
      rintro ⟨_, h2⟩
      have : (i + 1) * t.size ≤ xs.length * t.size := Nat.mul_le_mul_right _ hi
      rw [Nat.add_mul] at this; omega
    rw [if_neg hn, List.getElem?_eq_none (by rw [flat_length]; simpa using hb), List.getElem?_eq_none (by rw [flat_length]; exact hb)]

/-! ### What a step without a new owner has done -/
theorem StepOK.plain {M : Nat → Nat → Prop} {d : Nat} {av : AV} {v : Value} {rs : List (Nat × Root)} (hc : Chg w w' M) (hM : ∀ b o, b < w.heap.size → M b o → ∃ s x, g.who b o = .obj s x)
    (hv : RepA w' g av v) (hr : ∀ s r, look s rs = some r → RepR elid w' g s r) : StepOK elid w g w' g d av v none rs [] :=
  ⟨⟨hc.mono hM, fun _ _ _ h => h, fun _ _ _ h => h, fun _ _ _ h => h, fun _ _ => rfl⟩, fun b u h _ _ => h.pres hc hM (GChg.refl w g fun _ _ => False).ga (avoids_none b), hv, fun _ => hr, fun h => absurd rfl h, fun q h => by cases h⟩

theorem RepA.same {M : Nat → Nat → Prop} (hc : Chg w w' M) (hM : ∀ b o, b < w.heap.size → M b o → ∃ s x, g.who b o = .obj s x) {b : AV} {v : Value} (h : RepA w g b v) : RepA w' g b v :=
  h.pres hc hM (GChg.refl w g fun _ _ => False).ga (avoids_none b)
theorem RepR.same {M : Nat → Nat → Prop} (hc : Chg w w' M) {s : Nat} {r : Root} (hM : ∀ b o, b < w.heap.size → M b o → ∃ s' x, g.who b o = .obj s' x ∧ s' ≠ s) (h : RepR elid w g s r) : RepR elid w' g s r :=
  h.pres hc (GChg.refl w g fun _ _ => False).ga hM (fun _ _ _ _ h => h) (fun _ h => h) (fun b _ => avoids_none b)

/-- What slot s owns, its part j written anew. -/
theorem RepR.rewrite {M : Nat → Nat → Prop} (hc : Chg w w' M) {s j : Nat} {r : Root} (hM : ∀ b o, b < w.heap.size → M b o → g.who b o = .obj s (some j)) (h : RepR elid w g s r) {t : El} {fz fz' : Bool} {xs : List t.den} {xs' : List t.den}
    (hj : r.cs[j]? = some (.sl t fz xs)) (hs : RepS elid w' g s j t fz' xs') : RepR elid w' g s ⟨r.box, r.cs.set j (.sl t fz' xs')⟩ := by
  have hM1 : ∀ b o, b < w.heap.size → M b o → ∃ s' x, g.who b o = .obj s' x := fun b o hb hm => ⟨_, _, hM b o hb hm⟩
  have hga := (GChg.refl w g fun _ _ => False).ga
  have hother : ∀ i, i ≠ j → ∀ b o, b < w.heap.size → M b o → ∃ s' x, g.who b o = .obj s' x ∧ (s' ≠ s ∨ x ≠ some i) := fun i hi b o hb hm => ⟨_, _, hM b o hb hm, .inr (by simpa using fun e => hi e.symm)⟩
  have hjl : j < r.cs.length := (List.getElem?_eq_some_iff.mp hj).1
  refine ⟨fun hb i u f ys hi => ?_, fun hb => ?_⟩
  · simp only [List.getElem?_set] at hi
    by_cases hij : j = i
    · subst hij
      simp only [if_true, hjl, Option.some.injEq] at hi
      cases hi; exact hs
    · rw [if_neg hij] at hi
      exact (h.apart hb i u f ys hi).pres hc hga (fun _ _ _ h => h) (hother i fun e => hij e.symm) (fun h => h)
  · obtain ⟨vals, hv⟩ := h.box hb
    refine ⟨vals, fun i hi => ?_⟩
    have hi' : i < r.cs.length := by simpa using hi
    obtain ⟨h1, h2, h3, h4, h5⟩ := hv i hi'
    have hnm : ¬ M (g.hb s).1 ((g.hb s).2 + i) := fun hm => by have := hM _ _ h1 hm; rw [h2] at this; cases this
    refine ⟨Nat.lt_of_lt_of_le h1 hc.size, h2, (hc.cel _ _ h1 hnm).trans h3, (hc.frz _ _ h1 hnm).trans h4, ?_⟩
    simp only [List.getElem_set]
    by_cases hij : j = i
    · subst hij
      simp only [if_true]
      have e : r.cs[j] = .sl t fz xs := (List.getElem?_eq_some_iff.mp hj).2
      rw [e] at h5
      rw [h5.sl_inv.2]
      exact .sl t fz' xs' hs
    · rw [if_neg hij]
      exact h5.pres hc hga (hother i fun e => hij e.symm) (fun _ _ _ h => h) (fun h => h) (fun b _ => avoids_none b)

/-- What slot s owns, its part j forgotten. -/
theorem RepR.forget {s : Nat} {r : Root} (h : RepR elid w g s r) (j : Nat) : RepR elid w g s ⟨r.box, r.cs.set j (.av .und)⟩ := by
  refine ⟨fun hb i u f ys hi => ?_, fun hb => ?_⟩
  · simp only [List.getElem?_set] at hi
    by_cases hij : j = i
    · subst hij
      simp only [if_true] at hi
      split at hi <;> cases hi
    · rw [if_neg hij] at hi
      exact h.apart hb i u f ys hi
  · obtain ⟨vals, hv⟩ := h.box hb
    refine ⟨vals, fun i hi => ?_⟩
    have hi' : i < r.cs.length := by simpa using hi
    obtain ⟨h1, h2, h3, h4, h5⟩ := hv i hi'
    refine ⟨h1, h2, h3, h4, ?_⟩
    simp only [List.getElem_set]
    by_cases hij : j = i
    · subst hij; simp only [if_true]; exact .av _ _ (.und _)
    · rw [if_neg hij]; exact h5

theorem cell_root {s j : Nat} {c : Cell} (h : S.cell s j = some c) : ∃ r, S.root s = some r ∧ r.cs[j]? = some c := by
  unfold St.cell at h
  cases hr : S.root s with
  | none => rw [hr] at h; cases h
  | some r => rw [hr] at h; exact ⟨r, rfl, h⟩
theorem look_setCell {s j : Nat} {c : Cell} {r : Root} (hr : S.root s = some r) (i : Nat) : look i (S.setCell s j c).roots = if i = s then some ⟨r.box, r.cs.set j c⟩ else S.root i := by
  unfold St.setCell
  rw [hr]
  simp only [St.setRoot, look_put1]
  rfl

end
end Go.Proofs.YtppmpfddcohkjaaA
