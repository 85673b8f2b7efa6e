/- What is owned: frozen, moved, some names forgotten; no condition. -/
import Derived.Test.YtppmpfddcohkjaaW
namespace Go.Proofs.YtppmpfddcohkjaaA
open Go

section
variable {elid : El → Nat} {n : Nat} {w w' w'' : World} {g g' g'' : Gh} {S : St} {a : Act} {P : Program}

theorem RepR.raise {s j : Nat} {r : Root} (hr : RepR elid w g s r) {t : El} {xs : List t.den} (hj : r.cs[j]? = some (.sl t false xs)) :
    ∃ g', Frz g g' s ∧ RepR elid w g' s ⟨r.box, r.cs.set j (.sl t true xs)⟩ := by
  have hsj := hr.sl hj
  let F : Nat → Nat → Prop := fun b o => ∃ m cap, g.hs s j = .slice (some ⟨b, 0, none⟩) m cap ∧ o < xs.length * t.size
  have hF : ∀ b o, F b o → inRoot g s r.cs b o := fun b o ⟨m, cap, h1, h2⟩ => ⟨j, t, false, xs, m, cap, hj, h1, h2⟩
  have hfz := hr.frz_cells F hF
  have hjl : j < r.cs.length := (List.getElem?_eq_some_iff.mp hj).1
  have hself : RepS elid w (gFrz g s F) s j t true xs :=
    RepS.frz hr hF hj (fun b m cap o e ho => ⟨fun _ => .inl ⟨m, cap, e, ho⟩, fun h => by cases h⟩)
  have hothers : ∀ {i : Nat} {u : El} {f : Bool} {ys : List u.den}, i ≠ j → r.cs[i]? = some (Cell.sl u f ys) → RepS elid w (gFrz g s F) s i u f ys := by
    intro i u f ys hij hi
    refine RepS.frz hr hF hi (fun b m cap o e ho => ⟨fun h => .inr h, fun h => ⟨?_, h⟩⟩)
    rintro ⟨m', cap', e', ho'⟩
    have h1 := ((hr.sl hi).own b m cap e).2 o
    have h2 := (hsj.own b m' cap' e').2 o
    rw [if_pos ho] at h1
    rw [if_pos ho'] at h2
    subst h
    simp only [Bool.false_eq_true, if_false] at h1 h2
    rw [h1] at h2
    simp at h2
    exact hij h2
  refine ⟨gFrz g s F, hfz, fun hb i u f ys hi => ?_, fun hb => ?_⟩
  · simp only [List.getElem?_set] at hi
    by_cases hij : j = i
    · subst hij
      simp only [if_true, hjl, Option.some.injEq] at hi
      cases hi; exact hself
    · rw [if_neg hij] at hi
      exact hothers (fun e => hij e.symm) hi
  · obtain ⟨vals, hv⟩ := hr.box hb
    refine ⟨vals, fun i hi => ?_⟩
    have hi' : i < r.cs.length := by simpa using hi
    obtain ⟨h1, h2, h3, h4, h5⟩ := hv i hi'
    have hbn : (gFrz g s F).hb = g.hb := rfl
    rw [hbn]
    refine ⟨h1, ?_, h3, h4, ?_⟩
    · rcases hfz.who (g.hb s).1 ((g.hb s).2 + i) with h | ⟨⟨j, h⟩, _⟩
      · rw [h, h2]
      · rw [h2] at h; cases h
    · simp only [List.getElem_set]
      by_cases hij : j = i
      · subst hij
        simp only [if_true]
        have e : r.cs[j] = .sl t false xs := (List.getElem?_eq_some_iff.mp hj).2
        rw [e] at h5
        rw [h5.sl_inv.2]
        exact .sl t true xs hself
      · rw [if_neg hij]
        cases hc : r.cs[i] with
        | av q => rw [hc] at h5; exact .av _ _ (h5.av_inv.frz hfz)
        | sl u f ys =>
          rw [hc] at h5
          rw [h5.sl_inv.2]
          exact .sl u f ys (hothers (fun e => hij e.symm) (by rw [List.getElem?_eq_getElem hi', hc]))


/-! ### What is owned, some names forgotten -/
theorem RepR.weaken {s : Nat} {r r' : Root} (h : RepR elid w g s r) (hb : r'.box = r.box) (hl : r'.cs.length = r.cs.length)
    (hc : ∀ (j : Nat) (c c' : Cell), r.cs[j]? = some c → r'.cs[j]? = some c' → c' = c ∨ ∃ b b', c = Cell.av b ∧ c' = Cell.av b' ∧ ∀ v, RepA w g b v → RepA w g b' v) : RepR elid w g s r' := by
  have old : ∀ (j : Nat) (c' : Cell), r'.cs[j]? = some c' → ∃ c, r.cs[j]? = some c ∧ (c' = c ∨ ∃ b b', c = Cell.av b ∧ c' = Cell.av b' ∧ ∀ v, RepA w g b v → RepA w g b' v) := by
    intro j c' hj
    have hlt := (List.getElem?_eq_some_iff.mp hj).1
    have hlt' : j < r.cs.length := by omega
    exact ⟨_, List.getElem?_eq_getElem hlt', hc j _ _ (List.getElem?_eq_getElem hlt') hj⟩
  refine ⟨fun hb' j t fz xs hj => ?_, fun hb' => ?_⟩
  · obtain ⟨c, h1, h2⟩ := old j _ hj
    rcases h2 with rfl | ⟨b, b', _, h2, _⟩
    · exact h.apart (hb ▸ hb') j t fz xs h1
    · cases h2
  · obtain ⟨vals, hv⟩ := h.box (hb ▸ hb')
    refine ⟨vals, fun j hj => ?_⟩
    have hj' : j < r.cs.length := by omega
    obtain ⟨h1, h2, h3, h4, h5⟩ := hv j hj'
    refine ⟨h1, h2, h3, h4, ?_⟩
    rcases hc j _ _ (List.getElem?_eq_getElem hj') (List.getElem?_eq_getElem hj) with e | ⟨b, b', e1, e2, e3⟩
    · rw [e]; exact h5
    · rw [e2]; rw [e1] at h5; exact .av _ _ (e3 _ h5.av_inv)
theorem killBC_length (s : Nat) : ∀ cs : List Cell, (killBC s cs).length = cs.length
  | [] => rfl
  | c :: cs => by simp [killBC, killBC_length s cs]
theorem killBC_get (s : Nat) : ∀ (cs : List Cell) (j : Nat), (killBC s cs)[j]? = (cs[j]?).map (Cell.killB s)
  | [], _ => by simp [killBC]
  | c :: cs, 0 => by simp [killBC]
  | c :: cs, j + 1 => by simp only [killBC, List.getElem?_cons_succ]; exact killBC_get s cs j
theorem RepR.killB {s : Nat} {b : Bool} {cs : List Cell} (k : Nat) (h : RepR elid w g s ⟨b, cs⟩) : RepR elid w g s ⟨b, killBC k cs⟩ := by
  refine h.weaken rfl (killBC_length k cs) fun j c c' h1 h2 => ?_
  simp only [killBC_get] at h2
  simp only at h1
  rw [h1] at h2
  cases h2
  cases c with
  | av a => exact .inr ⟨a, _, rfl, rfl, fun v h => h.killB k⟩
  | sl t fz xs => exact .inl rfl
theorem RepR.killBs {s : Nat} {b : Bool} : ∀ (ks : List Nat) {cs : List Cell}, RepR elid w g s ⟨b, cs⟩ → RepR elid w g s ⟨b, killBs ks cs⟩
  | [], _, h => h
  | k :: l, _, h => RepR.killBs l (h.killB k)
theorem killBC_sl {k : Nat} {cs : List Cell} {j : Nat} {t : El} {fz : Bool} {xs : List t.den} : (killBC k cs)[j]? = some (.sl t fz xs) ↔ cs[j]? = some (.sl t fz xs) := by
  rw [killBC_get]
  cases cs[j]? with
  | none => simp
  | some c => cases c <;> simp [Cell.killB]
theorem killBs_sl {j : Nat} {t : El} {fz : Bool} {xs : List t.den} : ∀ (ks : List Nat) {cs : List Cell}, (_root_.Go.Proofs.YtppmpfddcohkjaaA.killBs ks cs)[j]? = some (.sl t fz xs) ↔ cs[j]? = some (.sl t fz xs)
  | [], _ => Iff.rfl
  | k :: l, _ => (killBs_sl l).trans killBC_sl
theorem killC_sl {k : Nat} {cs : List Cell} {j : Nat} {t : El} {fz : Bool} {xs : List t.den} : (killC k cs)[j]? = some (.sl t fz xs) ↔ cs[j]? = some (.sl t fz xs) := by
  rw [killC_get]
  cases cs[j]? with
  | none => simp
  | some c => cases c <;> simp [Cell.kill]
theorem mem_killBC {k : Nat} {cs : List Cell} {b : AV} (h : Cell.av b ∈ killBC k cs) : ∃ c, Cell.av c ∈ cs ∧ b = c.killB k := by
  induction cs with
  | nil => simp [killBC] at h
  | cons c cs ih =>
    simp only [killBC, List.mem_cons] at h
    rcases h with h | h
    · cases c with
      | av a => simp only [Cell.killB, Cell.av.injEq] at h; exact ⟨a, by simp, h⟩
      | sl t fz xs => simp [Cell.killB] at h
    · obtain ⟨c', h1, h2⟩ := ih h; exact ⟨c', List.mem_cons_of_mem _ h1, h2⟩
theorem mem_killBs : ∀ (ks : List Nat) {cs : List Cell} {b : AV}, Cell.av b ∈ _root_.Go.Proofs.YtppmpfddcohkjaaA.killBs ks cs → ∃ c, Cell.av c ∈ cs ∧ b = c.killBs ks
  | [], _, b, h => ⟨b, h, rfl⟩
  | k :: l, _, b, h => by
    obtain ⟨c, h1, h2⟩ := mem_killBs l h
    obtain ⟨c', h3, h4⟩ := mem_killBC h1
    exact ⟨c', h3, by rw [h2, h4]; rfl⟩


/-! ### A part moves to another owner -/
noncomputable def gMove (g : Gh) (s j s' j' : Nat) (v : Value) : Gh where
  who b o := if g.who b o = .obj s (some j) then .obj s' (some j') else g.who b o
  hs q i := if q = s' ∧ i = j' then v else g.hs q i
  hb := g.hb

section
variable {s j s' j' : Nat} {v : Value}
theorem move_ga : GA w g (gMove g s j s' j' v) fun q x => q = s' ∧ x = some j' := by
  refine ⟨fun b o _ h => by simp [gMove, h], fun b o _ h => by simp [gMove, h], fun q i h => ?_, fun _ _ => rfl⟩
  simp only [gMove]
  rw [if_neg fun ⟨h1, h2⟩ => h ⟨h1, by rw [h2]⟩]
theorem move_inv : Inv w g w (gMove g s j s' j' v) :=
  ⟨.refl _ _, fun b o _ h => by simp [gMove, h], fun b o _ h => by simp [gMove, h], fun b o _ h => by simp [gMove, h], fun _ _ => rfl⟩
theorem RepA.move {b : AV} {u : Value} (h : RepA w g b u) (hb : Avoids (fun q x => q = s' ∧ x = some j') b) : RepA w (gMove g s j s' j' v) b u :=
  h.pres (.refl w fun _ _ => False) (fun _ _ _ h => h.elim) move_ga hb
theorem RepS.moved {t : El} {fz : Bool} {xs : List t.den} (h : RepS elid w g s j t fz xs) (hv : v = g.hs s j) : RepS elid w (gMove g s j s' j' v) s' j' t fz xs := by
  obtain ⟨⟨vs, h1, h2, h3⟩, hown⟩ := h
  have e : (gMove g s j s' j' v).hs s' j' = g.hs s j := by simp [gMove, hv]
  refine ⟨⟨vs, by rw [e]; exact h1, h2, fun i h h' => (h3 i h h').move (flat_avoids _ t xs _ (List.getElem_mem h))⟩, fun b m cap e' => ?_⟩
  rw [e] at e'
  obtain ⟨hlt, hw⟩ := hown b m cap e'
  refine ⟨hlt, fun o => ?_⟩
  have := hw o
  split at this
  · rename_i ho
    rw [if_pos ho]
    cases fz with
    | true => simp only [if_true] at this ⊢; simp [gMove, this]
    | false => simp only [Bool.false_eq_true, if_false] at this ⊢; simp [gMove, this]
  · rename_i ho
    rw [if_neg ho]
    simp [gMove, this]
theorem RepS.stays {q i : Nat} {t : El} {fz : Bool} {xs : List t.den} (h : RepS elid w g q i t fz xs) (h1 : ¬ (q = s ∧ i = j)) (h2 : ¬ (q = s' ∧ i = j')) : RepS elid w (gMove g s j s' j' v) q i t fz xs := by
  refine h.pres (M := fun _ _ => False) (.refl w _) move_ga (fun b o _ e => ?_) (fun _ _ _ h => h.elim) (fun ⟨e1, e2⟩ => h2 ⟨e1, by cases e2; rfl⟩)
  simp only [gMove]
  rw [if_neg]
  · exact e
  · rw [e]
    intro e2
    cases e2
    exact h1 ⟨rfl, rfl⟩
theorem RepR.move {q : Nat} {r : Root} (h : RepR elid w g q r) (hsl : ∀ i t fz xs, r.cs[i]? = some (.sl t fz xs) → ¬ (q = s ∧ i = j) ∧ ¬ (q = s' ∧ i = j')) (hav : ∀ b, Cell.av b ∈ r.cs → Avoids (fun q x => q = s' ∧ x = some j') b) :
    RepR elid w (gMove g s j s' j' v) q r := by
  refine ⟨fun hb i t fz xs hi => (h.apart hb i t fz xs hi).stays (hsl i t fz xs hi).1 (hsl i t fz xs hi).2, fun hb => ?_⟩
  obtain ⟨vals, hv⟩ := h.box hb
  refine ⟨vals, fun i hi => ?_⟩
  obtain ⟨h1, h2, h3, h4, h5⟩ := hv i hi
  refine ⟨h1, ?_, h3, h4, ?_⟩
  · show (if g.who (g.hb q).1 ((g.hb q).2 + i) = _ then _ else g.who (g.hb q).1 ((g.hb q).2 + i)) = _
    rw [if_neg (by rw [h2]; simp)]; exact h2
  · have key : ∀ c u, r.cs[i] = c → RepC elid w g q i c u → RepC elid w (gMove g s j s' j' v) q i c u := by
      intro c u hc h
      cases h with
      | av b u h => exact .av b u (h.move (hav b (by rw [← hc]; exact List.getElem_mem hi)))
      | sl t fz xs h =>
        have hi' : r.cs[i]? = some (.sl t fz xs) := by rw [List.getElem?_eq_getElem hi, hc]
        obtain ⟨q1, q2⟩ := hsl i t fz xs hi'
        have e : (gMove g s j s' j' v).hs q i = g.hs q i := by simp only [gMove]; rw [if_neg q2]
        rw [← e]
        exact .sl t fz xs (h.stays q1 q2)
    exact key _ _ rfl h5
theorem RepR.setSl {q i : Nat} {r : Root} {t : El} {fz : Bool} {xs : List t.den} (h : RepR elid w g q r) (hs : RepS elid w g q i t fz xs)
    (hb : r.box = true → ∀ u, w.cell? ⟨(g.hb q).1, (g.hb q).2 + i, none⟩ = some u → u = g.hs q i) : RepR elid w g q ⟨r.box, r.cs.set i (.sl t fz xs)⟩ := by
  refine ⟨fun hbx k u f ys hk => ?_, fun hbx => ?_⟩
  · simp only [List.getElem?_set] at hk
    by_cases hik : i = k
    · subst hik
      rw [if_pos rfl] at hk
      split at hk
      · cases hk; exact hs
      · cases hk
    · rw [if_neg hik] at hk
      exact h.apart hbx k u f ys hk
  · obtain ⟨vals, hv⟩ := h.box hbx
    refine ⟨vals, fun k hk => ?_⟩
    have hk' : k < r.cs.length := by simpa using hk
    obtain ⟨h1, h2, h3, h4, h5⟩ := hv k hk'
    refine ⟨h1, h2, h3, h4, ?_⟩
    simp only [List.getElem_set]
    by_cases hik : i = k
    · subst hik
      simp only [if_true]
      rw [hb hbx _ h3]
      exact .sl t fz xs hs
    · rw [if_neg hik]; exact h5
end


end
end Go.Proofs.YtppmpfddcohkjaaA
