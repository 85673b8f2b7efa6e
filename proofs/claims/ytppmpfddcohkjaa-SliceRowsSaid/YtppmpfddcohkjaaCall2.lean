/- Calls: the callee's view of the memory. -/
import Derived.Test.YtppmpfddcohkjaaCall
namespace Go.Proofs.YtppmpfddcohkjaaA
open Go

section
variable {elid : El → Nat} {n : Nat} {w w' w'' : World} {g g' g'' gc : Gh} {S : St} {a : Act} {P : Program}

/-- Place (s, j) is what part p of argument i was. -/
def SrcAt (os : List Out) (i p s j : Nat) : Prop := ∃ o, os[i]? = some o ∧ o.srcs[p]? = some (some (s, j))
def BoxAt (os : List Out) (i s : Nat) : Prop := ∃ o, os[i]? = some o ∧ o.box = some s

/-- The callee's ghost, out of the caller's. -/
structure CG (lend : Bool) (g gc : Gh) (os : List Out) : Prop where
  imm : ∀ b o, g.who b o = .imm → gc.who b o = .imm
  bor : ∀ b o, g.who b o = .bor → gc.who b o = .bor
  other : ∀ b o, g.who b o = .other → gc.who b o = .other
  box : ∀ b o s, g.who b o = .obj s none → (∀ i, ¬ BoxAt os i s) → gc.who b o = .bor
  lent : lend = true → ∀ b o s j, g.who b o = .obj s (some j) → (∀ i p, ¬ SrcAt os i p s j) → gc.who b o = .imm
  src : ∀ i p s j, SrcAt os i p s j → ∀ b o, g.who b o = .obj s (some j) → gc.who b o = .obj (1000 + i) (some p)
  bx : ∀ i s, BoxAt os i s → ∀ b o, g.who b o = .obj s none → gc.who b o = .obj (1000 + i) none
  hs : ∀ i p s j, SrcAt os i p s j → gc.hs (1000 + i) p = g.hs s j
  hsn : ∀ i p o, os[i]? = some o → o.srcs[p]? = some none → gc.hs (1000 + i) p = .slice none 0 0
  hb : ∀ i s, BoxAt os i s → gc.hb (1000 + i) = g.hb s
  from_ : ∀ b o s' x, gc.who b o = .obj s' x → (∃ i p s j, SrcAt os i p s j ∧ s' = 1000 + i ∧ x = some p ∧ g.who b o = .obj s (some j)) ∨ (∃ i s, BoxAt os i s ∧ s' = 1000 + i ∧ x = none ∧ g.who b o = .obj s none)
  keepo : lend = false → ∀ b o s j, g.who b o = .obj s (some j) → (∀ i p, ¬ SrcAt os i p s j) → gc.who b o = .other

theorem CG.ga {lend : Bool} {os : List Out} (h : CG lend g gc os) (w : World) : GA w g gc fun _ _ => True :=
  ⟨fun b o _ => h.imm b o, fun b o _ => h.bor b o, fun _ _ hn => absurd trivial hn, fun _ hn => absurd trivial hn⟩
theorem RepA.callee {lend : Bool} {os : List Out} (hg : CG lend g gc os) {b : AV} {v : Value} (h : RepA w g b v) (hb : Avoids (fun _ _ => True) b) : RepA w gc b v :=
  h.pres (.refl w fun _ _ => False) (fun _ _ _ h => h.elim) (hg.ga w) hb

theorem RepS.L {lend : Bool} {os : List Out} (hg : CG lend g gc os) {s j : Nat} {t : El} {fz : Bool} {xs : List t.den} (h : RepS elid w g s j t fz xs)
    (hl : fz = true ∨ (lend = true ∧ ∀ i p, ¬ SrcAt os i p s j)) : RepA w gc (.L t xs) (g.hs s j) := by
  have h' := h
  obtain ⟨⟨vs, hrow, h2, h3⟩, hown⟩ := h'
  rcases hrow.2 with ⟨e, hz⟩ | ⟨b, cap, cur, e, _, _, hcap, _⟩
  · have : xs = [] := List.eq_nil_of_length_eq_zero hz
    subst this
    rw [e]; exact .lnil _ _ _
  · obtain ⟨vals, _, hc⟩ := h.cells e
    obtain ⟨_, hwho⟩ := hown b _ _ e
    rw [e]
    refine .list t xs b 0 cap vals hcap (fun i hi => ?_) (fun i hi => (hc i hi).2.callee hg (flat_avoids _ t xs _ (List.getElem_mem hi)))
    rw [Nat.zero_add]
    refine ⟨?_, (hc i hi).1⟩
    have := hwho i
    rw [flat_length] at hi
    rw [if_pos hi] at this
    rcases hl with rfl | ⟨hl, hn⟩
    · exact hg.imm _ _ (by simpa using this)
    · cases fz with
      | true => exact hg.imm _ _ (by simpa using this)
      | false => exact hg.lent hl _ _ s j (by simpa using this) hn

/-- Nothing is handed over: then what is lent may be looked at. -/
def Lends (lend : Bool) (os : List Out) : Prop := lend = true → ∀ i p s j, ¬ SrcAt os i p s j

theorem leafAV_rep {lend : Bool} {os : List Out} (hg : CG lend g gc os) (hl : Lends lend os) {k : LK} {b c : AV} {v : Value} (h : leafAV lend S k b = some c) (hS : Rel elid n w g S a) (hv : RepA w g b v) : RepA w gc c v := by
  unfold leafAV at h
  split at h
  · cases h; exact hv.callee hg (.bool _)
  · split at h
    · rename_i hk; subst hk; cases h; exact hv.callee hg (.int _ _)
    · cases h
  · cases h; exact hv.callee hg (.str _)
  · rename_i t s j
    split at h
    · rename_i u fz xs hc
      cases hd : fz || lend with
      | false => rw [hd] at h; cases h
      | true =>
        rw [hd] at h
        simp only [cond] at h
        split at h
        · rename_i hu
          subst hu
          cases h
          rw [hv.al_inv.1]
          refine (hS.cell hc).L hg ?_
          cases fz with
          | true => exact .inl rfl
          | false => exact .inr ⟨by simpa using hd, fun i p => hl (by simpa using hd) i p s j⟩
        · cases h
    · cases h
  · rename_i t _
    cases hx : asL t b with
    | none => rw [hx] at h; cases h
    | some xs =>
      rw [hx] at h
      cases h
      exact (asL_rep hx hv).callee hg (.L _ _)
  · cases h

theorem leavesAV_rep {lend : Bool} {os : List Out} (hg : CG lend g gc os) (hl : Lends lend os) (hS : Rel elid n w g S a) : ∀ {ks : List LK} {l m : List AV} {vs : List Value}, leavesAV lend S ks l = some m → RepL w g l vs → RepL w gc m vs
  | [], [], m, vs, h, hr => by
    simp only [leavesAV, Option.some.injEq] at h; subst h
    rw [hr.nil_inv]; exact .nil
  | k :: ks, b :: l, m, vs, h, hr => by
    obtain ⟨v, vs', rfl, h1, h2⟩ := hr.cons_inv
    simp only [leavesAV] at h
    cases hb : leafAV lend S k b with
    | none => rw [hb] at h; cases h
    | some c =>
      rw [hb] at h
      simp only [Option.bind_some] at h
      cases hm : leavesAV lend S ks l with
      | none => rw [hm] at h; cases h
      | some m' =>
        rw [hm] at h
        simp only [Option.map_some, Option.some.injEq] at h
        subst h
        exact .cons (leafAV_rep hg hl hb hS h1) (leavesAV_rep hg hl hS hm h2)
  | [], _ :: _, _, _, h, _ => by simp [leavesAV] at h
  | _ :: _, [], _, _, h, _ => by simp [leavesAV] at h

theorem anyAV_rep {lend : Bool} {os : List Out} (hg : CG lend g gc os) (hl : Lends lend os) {b c : AV} {v : Value} (h : anyAV lend S b = some c) (hS : Rel elid n w g S a) (hv : RepA w g b v) : RepA w gc c v := by
  unfold anyAV at h
  split at h
  · rename_i s j
    split at h
    · rename_i u fz xs hc
      cases hd : fz || lend with
      | false => rw [hd] at h; cases h
      | true =>
        rw [hd] at h
        cases h
        rw [hv.al_inv.1]
        refine (hS.cell hc).L hg ?_
        cases fz with
        | true => exact .inl rfl
        | false => exact .inr ⟨by simpa using hd, fun i p => hl (by simpa using hd) i p s j⟩
    · cases h
  · cases h; exact hv.callee hg (.bool _)
  · cases h; exact hv.callee hg (.int _ _)
  · cases h; exact hv.callee hg (.str _)
  · cases h; exact hv.callee hg (.L _ _)
  · cases h; exact hv.callee hg .nils
  · cases h; exact hv.callee hg .nilp
  · cases h
theorem anysAV_rep {lend : Bool} {os : List Out} (hg : CG lend g gc os) (hl : Lends lend os) (hS : Rel elid n w g S a) : ∀ {l m : List AV} {vs : List Value}, anysAV lend S l = some m → RepL w g l vs → RepL w gc m vs
  | [], m, vs, h, hr => by
    simp only [anysAV, Option.some.injEq] at h; subst h
    rw [hr.nil_inv]; exact .nil
  | b :: l, m, vs, h, hr => by
    obtain ⟨v, vs', rfl, h1, h2⟩ := hr.cons_inv
    simp only [anysAV] at h
    cases hb : anyAV lend S b with
    | none => rw [hb] at h; cases h
    | some c =>
      rw [hb] at h
      simp only [Option.bind_some] at h
      cases hm : anysAV lend S l with
      | none => rw [hm] at h; cases h
      | some m' =>
        rw [hm] at h
        simp only [Option.map_some, Option.some.injEq] at h
        subst h
        exact .cons (anyAV_rep hg hl hb hS h1) (anysAV_rep hg hl hS hm h2)

/-- Cells behind an address, seen by the callee. -/
theorem RepA.vpOf {cs m : List AV} {b o : Nat} {vals : Nat → Value} (hl : m.length = cs.length) (hc : ∀ j, j < cs.length → (gc.who b (o + j) = .imm ∨ gc.who b (o + j) = .bor) ∧ w.cell? ⟨b, o + j, none⟩ = some (vals j))
    (hr : RepL w gc m ((List.range cs.length).map vals)) : RepA w gc (.vp m) (.pointer (some ⟨b, o, none⟩)) := by
  refine .vp m b o vals (fun j hj => hc j (by omega)) (fun j hj => ?_)
  have := hr.2 j hj (by simp; omega)
  simpa using this
theorem RepL.range {cs : List AV} {vals : Nat → Value} (h : ∀ j (h : j < cs.length), RepA w g (cs[j]) (vals j)) : RepL w g cs ((List.range cs.length).map vals) :=
  ⟨by simp, fun j hj hj' => by simp only [List.getElem_map, List.getElem_range]; exact h j hj⟩

/-- The cells of a box, or of what is lent, from an offset on. -/
theorem ro_cells {lend : Bool} {os : List Out} (hg : CG lend g gc os) {x : AV} {v : Value} {l : List AV} (hS : Rel elid n w g S a) (hbx : ∀ s, S.root s ≠ none → ∀ i, ¬ BoxAt os i s) (hv : RepA w g x v)
    (hx : (∃ s off cs, x = .ref s off ∧ S.root s = some ⟨true, cs⟩ ∧ l = (cellsAV s 0 cs).drop off) ∨ x = .vp l ∨ x = .vi l) :
    ∃ (b o : Nat) (vals : Nat → Value), v = .pointer (some ⟨b, o, none⟩) ∧ (∀ j, j < l.length → (gc.who b (o + j) = .imm ∨ gc.who b (o + j) = .bor) ∧ w.cell? ⟨b, o + j, none⟩ = some (vals j)) ∧ ∀ j (h : j < l.length), RepA w g (l[j]) (vals j) := by
  rcases hx with ⟨s, off, cs, rfl, hroot, rfl⟩ | rfl | rfl
  · obtain ⟨vals, hb⟩ := (hS.root hroot).box rfl
    refine ⟨_, _, fun j => vals (off + j), hv.ref_inv, fun j hj => ?_, fun j hj => ?_⟩
    · have hj' : off + j < cs.length := by simp [cellsAV_length] at hj; omega
      obtain ⟨_, h2, h3, _, _⟩ := hb _ hj'
      rw [Nat.add_assoc]
      exact ⟨.inr (hg.box _ _ s h2 (hbx s (by rw [hroot]; simp))), h3⟩
    · have hj' : off + j < cs.length := by simp [cellsAV_length] at hj; omega
      obtain ⟨_, _, _, _, h5⟩ := hb _ hj'
      have e := cellsAV_get s cs 0 (off + j)
      have hq : off + j < (cellsAV s 0 cs).length := by rw [cellsAV_length]; exact hj'
      simp only [hq, hj', List.getElem?_eq_getElem, Option.map_some, Nat.zero_add, Option.some.injEq] at e
      simp only [List.getElem_drop]
      rw [e]; exact h5.cellAV
  · cases hv with
    | vp _ b o vals hc hr =>
      refine ⟨b, o, vals, rfl, fun j hj => ⟨?_, (hc j hj).2⟩, hr⟩
      rcases (hc j hj).1 with h | h
      · exact .inl (hg.imm _ _ h)
      · exact .inr (hg.bor _ _ h)
  · cases hv with
    | vi _ b o vals hc hr => exact ⟨b, o, vals, rfl, fun j hj => ⟨.inl (hg.imm _ _ (hc j hj).1), (hc j hj).2⟩, hr⟩

theorem leavesAV_length {lend : Bool} : ∀ {ks : List LK} {l m : List AV}, leavesAV lend S ks l = some m → m.length = l.length
  | [], [], m, h => by simp only [leavesAV, Option.some.injEq] at h; subst h; rfl
  | k :: ks, b :: l, m, h => by
    simp only [leavesAV] at h
    cases hb : leafAV lend S k b with
    | none => rw [hb] at h; cases h
    | some c =>
      rw [hb] at h
      simp only [Option.bind_some] at h
      cases hm : leavesAV lend S ks l with
      | none => rw [hm] at h; cases h
      | some m' =>
        rw [hm] at h
        simp only [Option.map_some, Option.some.injEq] at h
        subst h
        simp [leavesAV_length hm]
  | [], _ :: _, _, h => by simp [leavesAV] at h
  | _ :: _, [], _, h => by simp [leavesAV] at h
theorem anysAV_length {lend : Bool} : ∀ {l m : List AV}, anysAV lend S l = some m → m.length = l.length
  | [], m, h => by simp only [anysAV, Option.some.injEq] at h; subst h; rfl
  | b :: l, m, h => by
    simp only [anysAV] at h
    cases hb : anyAV lend S b with
    | none => rw [hb] at h; cases h
    | some c =>
      rw [hb] at h
      simp only [Option.bind_some] at h
      cases hm : anysAV lend S l with
      | none => rw [hm] at h; cases h
      | some m' =>
        rw [hm] at h
        simp only [Option.map_some, Option.some.injEq] at h
        subst h
        simp [anysAV_length hm]

/-- A part of the cells. -/
theorem take_cells {b o off k : Nat} {l m : List AV} {vals : Nat → Value} (ht : takeExact l off k = some m)
    (hc : ∀ j, j < l.length → (gc.who b (o + j) = .imm ∨ gc.who b (o + j) = .bor) ∧ w.cell? ⟨b, o + j, none⟩ = some (vals j)) (hr : ∀ j (h : j < l.length), RepA w g (l[j]) (vals j)) :
    (∀ j, j < m.length → (gc.who b (o + off + j) = .imm ∨ gc.who b (o + off + j) = .bor) ∧ w.cell? ⟨b, o + off + j, none⟩ = some (vals (off + j))) ∧ ∀ j (h : j < m.length), RepA w g (m[j]) (vals (off + j)) := by
  obtain ⟨h1, h2, h3⟩ := takeExact_some ht
  refine ⟨fun j hj => ?_, fun j hj => ?_⟩
  · rw [Nat.add_assoc]; exact hc _ (by omega)
  · have e := h3 j (by omega)
    have hq : off + j < l.length := by omega
    simp only [hj, hq, List.getElem?_eq_getElem, Option.some.injEq] at e
    rw [e]; exact hr _ hq

theorem roAV_rep {lend : Bool} {os : List Out} (hg : CG lend g gc os) (hl : Lends lend os) (hS : Rel elid n w g S a) (hbx : ∀ s, S.root s ≠ none → ∀ i, ¬ BoxAt os i s) {ks : List LK} {x c : AV} {v : Value} (h : roAV lend S ks x = some c)
    (hv : RepA w g x v) : RepA w gc c v := by
  have fin : ∀ (off : Nat) (l m m' : List AV) (b o : Nat) (vals : Nat → Value), takeExact l off ks.length = some m → leavesAV lend S ks m = some m' → v = .pointer (some ⟨b, o + off, none⟩) →
      (∀ j, j < l.length → (gc.who b (o + j) = .imm ∨ gc.who b (o + j) = .bor) ∧ w.cell? ⟨b, o + j, none⟩ = some (vals j)) → (∀ j (h : j < l.length), RepA w g (l[j]) (vals j)) → RepA w gc (.vp m') v := by
    intro off l m m' b o vals ht hm hv hc hr
    obtain ⟨c1, c2⟩ := take_cells ht hc hr
    rw [hv]
    exact RepA.vpOf (leavesAV_length hm) c1 (leavesAV_rep hg hl hS hm (.range c2))
  unfold roAV at h
  split at h
  · rename_i s off
    split at h
    · rename_i cs hroot
      cases ht : takeExact (cellsAV s 0 cs) off ks.length with
      | none => rw [ht] at h; cases h
      | some m =>
        rw [ht] at h
        simp only [Option.bind_some] at h
        cases hm : leavesAV lend S ks m with
        | none => rw [hm] at h; cases h
        | some m' =>
          rw [hm] at h
          cases h
          obtain ⟨vals, hb⟩ := (hS.root hroot).box rfl
          refine fin off _ m m' (g.hb s).1 (g.hb s).2 vals ht hm hv.ref_inv (fun j hj => ?_) (fun j hj => ?_)
          · rw [cellsAV_length] at hj
            obtain ⟨_, h2, h3, _, _⟩ := hb _ hj
            exact ⟨.inr (hg.box _ _ s h2 (hbx s (by rw [hroot]; simp))), h3⟩
          · have hj' : j < cs.length := by rw [cellsAV_length] at hj; exact hj
            have e := cellsAV_get s cs 0 j
            simp only [hj, hj', List.getElem?_eq_getElem, Option.map_some, Nat.zero_add, Option.some.injEq] at e
            rw [e]; exact (hb _ hj').2.2.2.2.cellAV
    · cases h
  · rename_i cs
    cases ht : takeExact cs 0 ks.length with
    | none => rw [ht] at h; cases h
    | some m =>
      rw [ht] at h
      simp only [Option.bind_some] at h
      cases hm : leavesAV lend S ks m with
      | none => rw [hm] at h; cases h
      | some m' =>
        rw [hm] at h
        cases h
        obtain ⟨b, o, vals, e, hc, hr⟩ := ro_cells hg hS hbx hv (.inr (.inl rfl))
        exact fin 0 _ m m' b o vals ht hm e hc hr
  · rename_i cs
    cases ht : takeExact cs 0 ks.length with
    | none => rw [ht] at h; cases h
    | some m =>
      rw [ht] at h
      simp only [Option.bind_some] at h
      cases hm : leavesAV lend S ks m with
      | none => rw [hm] at h; cases h
      | some m' =>
        rw [hm] at h
        cases h
        obtain ⟨b, o, vals, e, hc, hr⟩ := ro_cells hg hS hbx hv (.inr (.inr rfl))
        exact fin 0 _ m m' b o vals ht hm e hc hr
  · cases h

theorem roAny_rep {lend : Bool} {os : List Out} (hg : CG lend g gc os) (hl : Lends lend os) (hS : Rel elid n w g S a) (hbx : ∀ s, S.root s ≠ none → ∀ i, ¬ BoxAt os i s) {x c : AV} {v : Value} (h : roAny lend S x = some c)
    (hv : RepA w g x v) : RepA w gc c v := by
  have fin : ∀ (l m : List AV), anysAV lend S l = some m → (∃ (b o : Nat) (vals : Nat → Value), v = .pointer (some ⟨b, o, none⟩) ∧
      (∀ j, j < l.length → (gc.who b (o + j) = .imm ∨ gc.who b (o + j) = .bor) ∧ w.cell? ⟨b, o + j, none⟩ = some (vals j)) ∧ ∀ j (h : j < l.length), RepA w g (l[j]) (vals j)) → RepA w gc (.vp m) v := by
    rintro l m hm ⟨b, o, vals, rfl, hc, hr⟩
    exact RepA.vpOf (anysAV_length hm) hc (anysAV_rep hg hl hS hm (.range hr))
  unfold roAny at h
  split at h
  · rename_i s off
    split at h
    · rename_i cs hroot
      cases hm : anysAV lend S ((cellsAV s 0 cs).drop off) with
      | none => rw [hm] at h; cases h
      | some m =>
        rw [hm] at h; cases h
        exact fin _ _ hm (ro_cells hg hS hbx hv (.inl ⟨s, off, cs, rfl, hroot, rfl⟩))
    · cases h
  · rename_i cs
    cases hm : anysAV lend S cs with
    | none => rw [hm] at h; cases h
    | some m => rw [hm] at h; cases h; exact fin _ _ hm (ro_cells hg hS hbx hv (.inr (.inl rfl)))
  · rename_i cs
    cases hm : anysAV lend S cs with
    | none => rw [hm] at h; cases h
    | some m => rw [hm] at h; cases h; exact fin _ _ hm (ro_cells hg hS hbx hv (.inr (.inr rfl)))
  · cases h
theorem rosAV_rep {lend : Bool} {os : List Out} (hg : CG lend g gc os) (hl : Lends lend os) (hS : Rel elid n w g S a) (hbx : ∀ s, S.root s ≠ none → ∀ i, ¬ BoxAt os i s) : ∀ {l m : List AV} {vs : List Value}, rosAV lend S l = some m → RepL w g l vs → RepL w gc m vs
  | [], m, vs, h, hr => by
    simp only [rosAV, Option.some.injEq] at h; subst h
    rw [hr.nil_inv]; exact .nil
  | b :: l, m, vs, h, hr => by
    obtain ⟨v, vs', rfl, h1, h2⟩ := hr.cons_inv
    simp only [rosAV] at h
    cases hb : roAny lend S b with
    | none => rw [hb] at h; cases h
    | some c =>
      rw [hb] at h
      simp only [Option.bind_some] at h
      cases hm : rosAV lend S l with
      | none => rw [hm] at h; cases h
      | some m' =>
        rw [hm] at h
        simp only [Option.map_some, Option.some.injEq] at h
        subst h
        exact .cons (roAny_rep hg hl hS hbx hb h1) (rosAV_rep hg hl hS hbx hm h2)

/-- An argument that is not handed over. -/
theorem argQ_rep {lend : Bool} {os : List Out} (hg : CG lend g gc os) (hl : Lends lend os) (hS : Rel elid n w g S a) (hbx : ∀ s, S.root s ≠ none → ∀ i, ¬ BoxAt os i s) {k : PK} {x : AV} {r : Arg} {v : Value} (h : argQ lend S k x = some r)
    (hv : RepA w g x v) : ∃ c, r = .v c ∧ RepA w gc c v := by
  unfold argQ at h
  split at h
  · rename_i k
    cases hc : leafAV lend S k x with
    | none => rw [hc] at h; cases h
    | some c => rw [hc] at h; cases h; exact ⟨c, rfl, leafAV_rep hg hl hc hS hv⟩
  · rename_i ks cs
    cases hc : leavesAV lend S ks cs with
    | none => rw [hc] at h; cases h
    | some m =>
      rw [hc] at h; cases h
      obtain ⟨vs, rfl, e1, e2⟩ := hv.agg_inv
      exact ⟨_, rfl, (leavesAV_rep hg hl hS hc ⟨e1, e2⟩).agg⟩
  · rename_i ks
    cases hc : roAV lend S ks x with
    | none => rw [hc] at h; cases h
    | some c => rw [hc] at h; cases h; exact ⟨c, rfl, roAV_rep hg hl hS hbx hc hv⟩
  · rename_i f caps
    cases hc : rosAV lend S caps with
    | none => rw [hc] at h; cases h
    | some m =>
      rw [hc] at h; cases h
      cases hv with
      | fn _ _ vs e1 e2 =>
        have := rosAV_rep hg hl hS hbx hc ⟨e1, e2⟩
        exact ⟨_, rfl, .fn f m vs this.1 this.2⟩
  · cases h

end
end Go.Proofs.YtppmpfddcohkjaaA
