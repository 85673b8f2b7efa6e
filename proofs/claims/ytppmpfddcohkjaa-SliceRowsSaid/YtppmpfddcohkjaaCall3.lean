/- Calls: what is handed over. -/
import Derived.Test.YtppmpfddcohkjaaCall2
namespace Go.Proofs.YtppmpfddcohkjaaA
open Go

section
variable {elid : El → Nat} {n : Nat} {w w' w'' : World} {g g' g'' gc : Gh} {S S' : St} {a : Act} {P : Program}

theorem RepS.callee {lend : Bool} {os : List Out} (hg : CG lend g gc os) {s j i p : Nat} {t : El} {fz : Bool} {xs : List t.den} (h : RepS elid w g s j t fz xs) (hs : SrcAt os i p s j) : RepS elid w gc (1000 + i) p t fz xs := by
  obtain ⟨⟨vs, h1, h2, h3⟩, hown⟩ := h
  have e := hg.hs i p s j hs
  refine ⟨⟨vs, by rw [e]; exact h1, h2, fun k hk hk' => (h3 k hk hk').callee hg (flat_avoids _ t xs _ (List.getElem_mem hk))⟩, fun b m cap e' => ?_⟩
  rw [e] at e'
  obtain ⟨hlt, hw⟩ := hown b m cap e'
  refine ⟨hlt, fun o => ?_⟩
  have := hw o
  split at this
  · rename_i ho
    rw [if_pos ho]
    cases fz with
    | true => exact hg.imm _ _ (by simpa using this)
    | false => exact hg.src i p s j hs b o (by simpa using this)
  · rename_i ho
    rw [if_neg ho]
    exact hg.src i p s j hs b o this
theorem RepS.empty {s j : Nat} {t : El} {fz : Bool} (h : g.hs s j = .slice none 0 0) : RepS elid w g s j t fz [] := by
  refine ⟨⟨[], by rw [h]; exact World.ownsRow_nil w 0 _ _, rfl, fun i h => by simp [flat] at h⟩, fun b m cap e => ?_⟩
  rw [h] at e; cases e

theorem leafW_rep {os : List Out} (hg : CG false g gc os) (hS : Rel elid n w g S a) {k : LK} {b : AV} {c : Cell} {x : Option (Nat × Nat)} {v : Value} (h : leafW S k b = some (c, x)) (hv : RepA w g b v)
    {i p : Nat} {o : Out} (ho : os[i]? = some o) (hx : o.srcs[p]? = some x) : RepC elid w gc (1000 + i) p c v := by
  have hl : Lends false os := fun h => by cases h
  unfold leafW at h
  split at h
  · cases h
    have e := hg.hsn i p o ho hx
    have ev : v = .slice none 0 0 := by cases hv; rfl
    rw [ev, ← e]
    exact .sl _ _ _ (.empty e)
  · rename_i t fz s j
    split at h
    · rename_i u fz' xs hc
      split at h
      · rename_i hu
        subst hu
        cases hf : fz == fz' with
        | false => rw [hf] at h; cases h
        | true =>
          rw [hf] at h
          cases h
          have hs : SrcAt os i p s j := ⟨o, ho, hx⟩
          rw [hv.al_inv.1, ← hg.hs i p s j hs]
          exact .sl _ _ _ ((hS.cell hc).callee hg hs)
      · cases h
    · cases h
  · cases hm : leafAV false S k b with
    | none => rw [hm] at h; cases h
    | some c' =>
      rw [hm] at h; cases h
      exact .av _ _ (leafAV_rep hg hl hm hS hv)

theorem leavesW_rep {os : List Out} (hg : CG false g gc os) (hS : Rel elid n w g S a) {i : Nat} {o : Out} (ho : os[i]? = some o) : ∀ {ks : List LK} {l : List AV} {cs : List Cell} {ys : List (Option (Nat × Nat))} {vs : List Value} (p : Nat),
    leavesW S ks l = some (cs, ys) → RepL w g l vs → (∀ q, q < ys.length → o.srcs[p + q]? = ys[q]?) → cs.length = vs.length ∧ ∀ q (hq : q < cs.length) (hq' : q < vs.length), RepC elid w gc (1000 + i) (p + q) (cs[q]) (vs[q])
  | [], [], cs, ys, vs, p, h, hr, _ => by
    simp only [leavesW, Option.some.injEq] at h; cases h
    rw [hr.nil_inv]
    exact ⟨rfl, fun q hq => by simp at hq⟩
  | k :: ks, b :: l, cs, ys, vs, p, h, hr, hp => by
    obtain ⟨v, vs', rfl, h1, h2⟩ := hr.cons_inv
    simp only [leavesW] at h
    cases hb : leafW S k b with
    | none => rw [hb] at h; cases h
    | some cx =>
      obtain ⟨c, x⟩ := cx
      rw [hb] at h
      simp only [Option.bind_some] at h
      cases hm : leavesW S ks l with
      | none => rw [hm] at h; cases h
      | some my =>
        obtain ⟨m, y⟩ := my
        rw [hm] at h
        simp only [Option.map_some, Option.some.injEq] at h
        cases h
        have h0 := hp 0 (by simp)
        simp only [Nat.add_zero, List.getElem?_cons_zero] at h0
        obtain ⟨e1, e2⟩ := leavesW_rep hg hS ho (p + 1) hm h2 (fun q hq => by
          have := hp (q + 1) (by simp; omega)
          rw [show p + (q + 1) = p + 1 + q by omega] at this
          simpa using this)
        refine ⟨by simp [e1], fun q hq hq' => ?_⟩
        cases q with
        | zero => exact leafW_rep hg hS hb h1 ho h0
        | succ q =>
          have := e2 q (by simpa using hq) (by simpa using hq')
          rw [show p + 1 + q = p + (q + 1) by omega] at this
          simpa using this
  | [], _ :: _, _, _, _, _, h, _, _ => by simp [leavesW] at h
  | _ :: _, [], _, _, _, _, h, _, _ => by simp [leavesW] at h

theorem boxCells_rep {os : List Out} (hg : CG false g gc os) (hS : Rel elid n w g S a) {i s : Nat} {o : Out} (ho : os[i]? = some o) : ∀ {ks : List LK} {l cs : List Cell} {ys : List (Option (Nat × Nat))} {vals : Nat → Value} (p : Nat),
    boxCells S s p ks l = some (cs, ys) → (∀ q (hq : q < l.length), RepC elid w g s (p + q) (l[q]) (vals (p + q))) → (∀ q, q < ys.length → o.srcs[p + q]? = ys[q]?) →
    cs.length = l.length ∧ ∀ q (hq : q < cs.length), RepC elid w gc (1000 + i) (p + q) (cs[q]) (vals (p + q))
  | [], [], cs, ys, vals, p, h, hr, _ => by
    simp only [boxCells, Option.some.injEq] at h; cases h
    exact ⟨rfl, fun q hq => by simp at hq⟩
  | k :: ks, c0 :: l, cs, ys, vals, p, h, hr, hp => by
    have hr0 := hr 0 (by simp)
    simp only [Nat.add_zero, List.getElem_cons_zero] at hr0
    have hrest : ∀ q (hq : q < l.length), RepC elid w g s (p + 1 + q) (l[q]) (vals (p + 1 + q)) := by
      intro q hq
      have := hr (q + 1) (by simp; omega)
      rw [show p + (q + 1) = p + 1 + q by omega] at this
      simpa using this
    -- one cell, and the rest
    have fin : ∀ (c : Cell) (x : Option (Nat × Nat)) (m : List Cell) (y : List (Option (Nat × Nat))), boxCells S s (p + 1) ks l = some (m, y) → cs = c :: m → ys = x :: y → (o.srcs[p]? = some x → RepC elid w gc (1000 + i) p c (vals p)) →
        cs.length = (c0 :: l).length ∧ ∀ q (hq : q < cs.length), RepC elid w gc (1000 + i) (p + q) (cs[q]) (vals (p + q)) := by
      intro c x m y hm hcs hys hc
      subst hcs; subst hys
      have h0 := hp 0 (by simp)
      simp only [Nat.add_zero, List.getElem?_cons_zero] at h0
      obtain ⟨e1, e2⟩ := boxCells_rep hg hS ho (p + 1) hm hrest (fun q hq => by
        have := hp (q + 1) (by simp; omega)
        rw [show p + (q + 1) = p + 1 + q by omega] at this
        simpa using this)
      refine ⟨by simp [e1], fun q hq => ?_⟩
      cases q with
      | zero => exact hc h0
      | succ q =>
        have := e2 q (by simpa using hq)
        rw [show p + 1 + q = p + (q + 1) by omega] at this
        simpa using this
    cases c0 with
    | av b =>
      simp only [boxCells] at h
      cases hb : leafW S k b with
      | none => rw [hb] at h; cases h
      | some cx =>
        obtain ⟨c, x⟩ := cx
        rw [hb] at h
        simp only [Option.bind_some] at h
        cases hm : boxCells S s (p + 1) ks l with
        | none => rw [hm] at h; cases h
        | some my =>
          obtain ⟨m, y⟩ := my
          rw [hm] at h
          simp only [Option.map_some, Option.some.injEq] at h
          cases h
          exact fin c x m y hm rfl rfl fun h0 => leafW_rep hg hS hb hr0.av_inv ho h0
    | sl u fz' xs =>
      cases k <;> try (simp [boxCells] at h; done)
      case own t fz =>
        simp only [boxCells] at h
        split at h
        · rename_i hu
          subst hu
          cases hf : fz == fz' with
          | false => rw [hf] at h; cases h
          | true =>
            rw [hf] at h
            simp only [cond] at h
            cases hm : boxCells S s (p + 1) ks l with
            | none => rw [hm] at h; cases h
            | some my =>
              obtain ⟨m, y⟩ := my
              rw [hm] at h
              simp only [Option.map_some, Option.some.injEq] at h
              cases h
              refine fin _ _ m y hm rfl rfl fun h0 => ?_
              have hs : SrcAt os i p s p := ⟨o, ho, h0⟩
              rw [hr0.sl_inv.2, ← hg.hs i p s p hs]
              exact .sl _ _ _ (hr0.sl_inv.1.callee hg hs)
        · cases h
      case list t =>
        cases fz' with
        | false => simp [boxCells] at h
        | true =>
          simp only [boxCells] at h
          split at h
          · rename_i hu
            subst hu
            cases hm : boxCells S s (p + 1) ks l with
            | none => rw [hm] at h; cases h
            | some my =>
              obtain ⟨m, y⟩ := my
              rw [hm] at h
              simp only [Option.map_some, Option.some.injEq] at h
              cases h
              refine fin _ _ m y hm rfl rfl fun _ => ?_
              rw [hr0.sl_inv.2]
              exact .av _ _ (hr0.sl_inv.1.L hg (.inl rfl))
          · cases h
  | [], _ :: _, _, _, _, _, h, _, _ => by simp [boxCells] at h
  | _ :: _, [], _, _, _, _, h, _, _ => by simp [boxCells] at h

/-- An argument, as the callee finds it. -/
structure ArgRep (elid : El → Nat) (w : World) (gc : Gh) (i : Nat) (r : Arg) (v : Value) : Prop where
  val : ∀ k b, look k (enterT i [r]) = some b → k = i ∧ RepA w gc b v
  root : ∀ s q, look s (enterR i [r]) = some q → RepR elid w gc s q

theorem cellsAV_rep {w : World} {g : Gh} {s : Nat} : ∀ {cs : List Cell} {vs : List Value} (p : Nat), cs.length = vs.length → (∀ q (hq : q < cs.length) (hq' : q < vs.length), RepC elid w g s (p + q) (cs[q]) (vs[q])) → RepL w g (cellsAV s p cs) vs
  | [], [], _, _, _ => .nil
  | c :: cs, v :: vs, p, hl, h => by
    refine .cons (h 0 (by simp) (by simp)).cellAV (cellsAV_rep (p + 1) (by simpa using hl) fun q hq hq' => ?_)
    have := h (q + 1) (by simp; omega) (by simp; omega)
    rw [show p + (q + 1) = p + 1 + q by omega] at this
    simpa using this
  | [], _ :: _, _, hl, _ => by simp at hl
  | _ :: _, [], _, hl, _ => by simp at hl

theorem RepR.ofCells {w : World} {g : Gh} {s : Nat} {cs : List Cell} {vs : List Value} (hl : cs.length = vs.length) (h : ∀ q (hq : q < cs.length) (hq' : q < vs.length), RepC elid w g s q (cs[q]) (vs[q])) : RepR elid w g s ⟨false, cs⟩ := by
  refine ⟨fun _ j t fz xs hj => ?_, fun e => by cases e⟩
  obtain ⟨h1, h2⟩ := List.getElem?_eq_some_iff.mp hj
  have h1' : j < cs.length := h1
  have := h j h1' (by omega)
  simp only at h2
  rw [h2] at this
  exact this.sl_inv.1

theorem argW_rep {lend : Bool} {os : List Out} (hg : CG lend g gc os) (hgf : (∀ i p s j, ¬ SrcAt os i p s j) ∧ (∀ i s, ¬ BoxAt os i s) ∨ lend = false) (hl : Lends lend os) (hS : Rel elid n w g S a) (hS' : Rel elid n w g S' a) (hbx : ∀ s, S'.root s ≠ none → ∀ i, ¬ BoxAt os i s)
    {k : PK} {b : AV} {r : Arg} {x : Out} {v : Value} (h : argW lend S S' k b = some (r, x)) (hlf : lend = true → k.quiet = true) (hv : RepA w g b v) {i : Nat} (ho : os[i]? = some x) : ArgRep elid w gc i r v := by
  unfold argW at h
  cases hq : k.quiet with
  | true =>
    rw [hq] at h
    simp only [cond] at h
    cases hm : argQ lend S' k b with
    | none => rw [hm] at h; cases h
    | some r' =>
      rw [hm] at h
      cases h
      obtain ⟨c, rfl, hc⟩ := argQ_rep hg hl hS' hbx hm hv
      refine ⟨fun k b hk => ?_, fun s q hs => by simp [enterR, look] at hs⟩
      simp only [enterT, look] at hk
      cases e : Nat.beq i k with
      | false => rw [e] at hk; cases hk
      | true => rw [e] at hk; cases hk; exact ⟨(Nat.eq_of_beq_eq_true e).symm, hc⟩
  | false =>
    have hlf' : lend = false := by
      cases lend with
      | false => rfl
      | true => have := hlf rfl; rw [hq] at this; cases this
    subst hlf'
    rw [hq] at h
    simp only [cond] at h
    have single : ∀ (b' : AV) (c0 : AV) (k0 : Nat), look k0 [(i, c0)] = some b' → k0 = i ∧ b' = c0 := by
      intro b' c0 k0 hk
      simp only [look] at hk
      cases e : Nat.beq i k0 with
      | false => rw [e] at hk; cases hk
      | true => rw [e] at hk; cases hk; exact ⟨(Nat.eq_of_beq_eq_true e).symm, rfl⟩
    have singleR : ∀ (q : Root) (c0 : Root) (k0 : Nat), look k0 [(1000 + i, c0)] = some q → k0 = 1000 + i ∧ q = c0 := by
      intro q c0 k0 hk
      simp only [look] at hk
      cases e : Nat.beq (1000 + i) k0 with
      | false => rw [e] at hk; cases hk
      | true => rw [e] at hk; cases hk; exact ⟨(Nat.eq_of_beq_eq_true e).symm, rfl⟩
    split at h
    · rename_i k
      cases hm : leafW S k b with
      | none => rw [hm] at h; cases h
      | some cx =>
        rw [hm] at h
        cases h
        have hc := leafW_rep hg hS hm hv ho (p := 0) (by simp)
        refine ⟨fun k b hk => ?_, fun s q hs => ?_⟩
        · obtain ⟨e1, e2⟩ := single _ _ _ hk
          subst e2; exact ⟨e1, hc.cellAV⟩
        · obtain ⟨e1, e2⟩ := singleR _ _ _ hs
          subst e1; subst e2
          exact RepR.ofCells (vs := [v]) rfl fun q hq hq' => by
            have : q = 0 := by simp at hq; omega
            subst this
            simpa using hc
    · rename_i ks cs
      cases hm : leavesW S ks cs with
      | none => rw [hm] at h; cases h
      | some cy =>
        obtain ⟨l, y⟩ := cy
        rw [hm] at h
        cases h
        obtain ⟨vs, rfl, e1, e2⟩ := hv.agg_inv
        obtain ⟨f1, f2⟩ := leavesW_rep hg hS ho 0 hm ⟨e1, e2⟩ (fun q hq => by simp)
        simp only [Nat.zero_add] at f2
        refine ⟨fun k b hk => ?_, fun s q hs => ?_⟩
        · obtain ⟨q1, q2⟩ := single _ _ _ hk
          subst q2
          exact ⟨q1, (cellsAV_rep 0 f1 (by simpa using f2)).agg⟩
        · obtain ⟨q1, q2⟩ := singleR _ _ _ hs
          subst q1; subst q2
          exact RepR.ofCells f1 f2
    · rename_i ks s
      split at h
      · rename_i cs hroot
        cases hm : boxCells S s 0 ks cs with
        | none => rw [hm] at h; cases h
        | some cy =>
          obtain ⟨l, y⟩ := cy
          rw [hm] at h
          cases h
          have hbat : BoxAt os i s := ⟨_, ho, rfl⟩
          obtain ⟨vals, hvv⟩ := (hS.root hroot).box rfl
          obtain ⟨f1, f2⟩ := boxCells_rep hg hS ho (s := s) (vals := vals) 0 hm (fun q hq => by rw [Nat.zero_add]; exact (hvv q hq).2.2.2.2) (fun q hq => by simp)
          refine ⟨fun k b hk => ?_, fun s' q hs => ?_⟩
          · obtain ⟨q1, q2⟩ := single _ _ _ hk
            subst q2
            refine ⟨q1, ?_⟩
            rw [hv.ref_inv, ← hg.hb i s hbat]
            exact .ref _ _
          · obtain ⟨q1, q2⟩ := singleR _ _ _ hs
            subst q1; subst q2
            refine ⟨fun e => (by cases e), fun _ => ⟨vals, fun j hj => ?_⟩⟩
            have hj' : j < cs.length := by rw [← f1]; exact hj
            obtain ⟨h1, h2, h3, h4, _⟩ := hvv j hj'
            rw [hg.hb i s hbat]
            refine ⟨h1, hg.bx i s hbat _ _ h2, h3, h4, ?_⟩
            have := f2 j hj
            rwa [Nat.zero_add] at this
      · cases h
    · cases h

end
end Go.Proofs.YtppmpfddcohkjaaA
