/- Calls: freezing ahead of them, and what is handed over. -/
import Derived.Test.YtppmpfddcohkjaaW3
namespace Go.Proofs.YtppmpfddcohkjaaA
open Go

section
variable {elid : El → Nat} {n : Nat} {w w' w'' : World} {g g' g'' : Gh} {S : St} {a : Act} {P : Program}

theorem RepR.raise {s j : Nat} {r : Root} (hr : RepR elid w g s r) {t : El} {xs : List t.den} (hj : r.cs[j]? = some (.sl t false xs)) :
    ∃ g', Frz g g' s ∧ RepR elid w g' s ⟨r.box, r.cs.set j (.sl t true xs)⟩ := by
  have hsj := hr.sl hj
  let F : Nat → Nat → Prop := fun b o => ∃ m cap, g.hs s j = .slice (some ⟨b, 0, none⟩) m cap ∧ o < xs.length * t.size
  have hF : ∀ b o, F b o → inRoot g s r.cs b o := fun b o ⟨m, cap, h1, h2⟩ => ⟨j, t, false, xs, m, cap, hj, h1, h2⟩
  have hfz := hr.frz_cells F hF
  have hjl : j < r.cs.length := (List.getElem?_eq_some_iff.mp hj).1
  have hself : RepS elid w (gFrz g s F) s j t true xs :=
    RepS.frz hr hF hj (fun b m cap o e ho => ⟨fun _ => .inl ⟨m, cap, e, ho⟩, fun h => by cases h⟩)
  have hothers : ∀ {i : Nat} {u : El} {f : Bool} {ys : List u.den}, i ≠ j → r.cs[i]? = some (Cell.sl u f ys) → RepS elid w (gFrz g s F) s i u f ys := by
    intro i u f ys hij hi
    refine RepS.frz hr hF hi (fun b m cap o e ho => ⟨fun h => .inr h, fun h => ⟨?_, h⟩⟩)
    rintro ⟨m', cap', e', ho'⟩
    have h1 := ((hr.sl hi).own b m cap e).2 o
    have h2 := (hsj.own b m' cap' e').2 o
    rw [if_pos ho] at h1
    rw [if_pos ho'] at h2
    subst h
    simp only [Bool.false_eq_true, if_false] at h1 h2
    rw [h1] at h2
    simp at h2
    exact hij h2
  refine ⟨gFrz g s F, hfz, fun hb i u f ys hi => ?_, fun hb => ?_⟩
  · simp only [List.getElem?_set] at hi
    by_cases hij : j = i
    · subst hij
      simp only [if_true, hjl, Option.some.injEq] at hi
      cases hi; exact hself
    · rw [if_neg hij] at hi
      exact hothers (fun e => hij e.symm) hi
  · obtain ⟨vals, hv⟩ := hr.box hb
    refine ⟨vals, fun i hi => ?_⟩
    have hi' : i < r.cs.length := by simpa using hi
    obtain ⟨h1, h2, h3, h4, h5⟩ := hv i hi'
    have hbn : (gFrz g s F).hb = g.hb := rfl
    rw [hbn]
    refine ⟨h1, ?_, h3, h4, ?_⟩
    · rcases hfz.who (g.hb s).1 ((g.hb s).2 + i) with h | ⟨⟨j, h⟩, _⟩
      · rw [h, h2]
      · rw [h2] at h; cases h
    · simp only [List.getElem_set]
      by_cases hij : j = i
      · subst hij
        simp only [if_true]
        have e : r.cs[j] = .sl t false xs := (List.getElem?_eq_some_iff.mp hj).2
        rw [e] at h5
        rw [h5.sl_inv.2]
        exact .sl t true xs hself
      · rw [if_neg hij]
        cases hc : r.cs[i] with
        | av q => rw [hc] at h5; exact .av _ _ (h5.av_inv.frz hfz)
        | sl u f ys =>
          rw [hc] at h5
          rw [h5.sl_inv.2]
          exact .sl u f ys (hothers (fun e => hij e.symm) (by rw [List.getElem?_eq_getElem hi', hc]))

theorem tmp_setCell (S : St) (s j : Nat) (c : Cell) : (S.setCell s j c).tmp = S.tmp := by
  unfold St.setCell; cases S.root s <;> rfl
theorem root_setCell {s j : Nat} {c : Cell} {r : Root} (hr : S.root s = some r) (i : Nat) : (S.setCell s j c).root i = if i = s then some ⟨r.box, r.cs.set j c⟩ else S.root i :=
  look_setCell hr i
theorem setCell_none {s j : Nat} {c : Cell} (hr : S.root s = none) : S.setCell s j c = S := by
  unfold St.setCell; rw [hr]

/-- One part of what is owned, frozen. -/
theorem Rel.frzAt (hS : Rel elid n w g S a) (s j : Nat) : ∃ g', Rel elid n w g' (_root_.Go.Proofs.YtppmpfddcohkjaaA.frzAt S s j) a ∧ Inv w g w g' ∧ ∀ b v, RepA w g b v → RepA w g' b v := by
  unfold _root_.Go.Proofs.YtppmpfddcohkjaaA.frzAt
  split
  · rename_i t xs hc
    obtain ⟨r, hr, hj⟩ := cell_root hc
    obtain ⟨g', hf, hR⟩ := (hS.root hr).raise hj
    refine ⟨g', ⟨hS.size, hS.df, fun t => ?_, fun s' r' hr' => ?_⟩, hf.inv w, fun b v h => h.frz hf⟩
    · rw [tmp_setCell]; exact (hS.tm t).frz hf
    · rw [root_setCell hr] at hr'
      by_cases hss : s' = s
      · subst hss
        rw [if_pos rfl] at hr'
        cases hr'
        exact hR
      · rw [if_neg hss] at hr'
        exact (hS.rt s' r' hr').frz hf hss
  · exact ⟨g, hS, .refl _ _, fun _ _ h => h⟩
theorem Rel.frzAll : ∀ (l : List (Nat × Nat)) {g : Gh} {S : St}, Rel elid n w g S a → ∃ g', Rel elid n w g' (_root_.Go.Proofs.YtppmpfddcohkjaaA.frzAll S l) a ∧ Inv w g w g' ∧ ∀ b v, RepA w g b v → RepA w g' b v
  | [], g, _, hS => ⟨g, hS, .refl _ _, fun _ _ h => h⟩
  | p :: l, _, _, hS => by
    obtain ⟨g1, h1, i1, r1⟩ := hS.frzAt p.1 p.2
    obtain ⟨g2, h2, i2, r2⟩ := Rel.frzAll l h1
    exact ⟨g2, h2, i1.trans i2, fun b v h => r2 b v (r1 b v h)⟩

end
end Go.Proofs.YtppmpfddcohkjaaA
