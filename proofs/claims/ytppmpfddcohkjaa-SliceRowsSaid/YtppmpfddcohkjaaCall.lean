/- Calls: freezing ahead of them, and what is handed over. -/
import Derived.Test.YtppmpfddcohkjaaW3
namespace Go.Proofs.YtppmpfddcohkjaaA
open Go

section
variable {elid : El → Nat} {n : Nat} {w w' w'' : World} {g g' g'' : Gh} {S : St} {a : Act} {P : Program}

theorem tmp_setCell (S : St) (s j : Nat) (c : Cell) : (S.setCell s j c).tmp = S.tmp := by
  unfold St.setCell; cases S.root s <;> rfl
theorem root_setCell {s j : Nat} {c : Cell} {r : Root} (hr : S.root s = some r) (i : Nat) : (S.setCell s j c).root i = if i = s then some ⟨r.box, r.cs.set j c⟩ else S.root i :=
  look_setCell hr i
theorem setCell_none {s j : Nat} {c : Cell} (hr : S.root s = none) : S.setCell s j c = S := by
  unfold St.setCell; rw [hr]

/-- One part of what is owned, frozen. -/
theorem Rel.frzAt (hS : Rel elid n w g S a) (s j : Nat) : ∃ g', Rel elid n w g' (_root_.Go.Proofs.YtppmpfddcohkjaaA.frzAt S s j) a ∧ Inv w g w g' ∧ ∀ b v, RepA w g b v → RepA w g' b v := by
  unfold _root_.Go.Proofs.YtppmpfddcohkjaaA.frzAt
  split
  · rename_i t xs hc
    obtain ⟨r, hr, hj⟩ := cell_root hc
    obtain ⟨g', hf, hR⟩ := (hS.root hr).raise hj
    refine ⟨g', ⟨hS.size, hS.df, fun t => ?_, fun s' r' hr' => ?_⟩, hf.inv w, fun b v h => h.frz hf⟩
    · rw [tmp_setCell]; exact (hS.tm t).frz hf
    · rw [root_setCell hr] at hr'
      by_cases hss : s' = s
      · subst hss
        rw [if_pos rfl] at hr'
        cases hr'
        exact hR
      · rw [if_neg hss] at hr'
        exact (hS.rt s' r' hr').frz hf hss
  · exact ⟨g, hS, .refl _ _, fun _ _ h => h⟩
theorem Rel.frzAll : ∀ (l : List (Nat × Nat)) {g : Gh} {S : St}, Rel elid n w g S a → ∃ g', Rel elid n w g' (_root_.Go.Proofs.YtppmpfddcohkjaaA.frzAll S l) a ∧ Inv w g w g' ∧ ∀ b v, RepA w g b v → RepA w g' b v
  | [], g, _, hS => ⟨g, hS, .refl _ _, fun _ _ h => h⟩
  | p :: l, _, _, hS => by
    obtain ⟨g1, h1, i1, r1⟩ := hS.frzAt p.1 p.2
    obtain ⟨g2, h2, i2, r2⟩ := Rel.frzAll l h1
    exact ⟨g2, h2, i1.trans i2, fun b v h => r2 b v (r1 b v h)⟩

end
end Go.Proofs.YtppmpfddcohkjaaA
