/- Stores, appends, copies. -/
import Derived.Test.YtppmpfddcohkjaaMove
namespace Go.Proofs.YtppmpfddcohkjaaA
open Go

section
variable {elid : El → Nat} {n : Nat} {w w' w'' : World} {g g' g'' : Gh} {S : St} {a : Act} {P : Program}

/-- What one operation has done, by the model's rule for it. -/
def WOK {R : Type} (elid : El → Nat) (P : Program) (w : World) (g : Gh) (a : Act) (o : Oper) (d : Nat) (κ : AV → Option Root → List (Nat × Root) → List Nat → Option R) (r : R) : Prop :=
  ∀ (K : Act → World → Prop) (Q : Exit → Act → World → Prop), (∀ av v rt rs ks w' g', κ av rt rs ks = some r → StepOK elid w g w' g' d av v rt rs ks → K (a.put o.dst v) w') → o.wp P a w K Q

theorem WOK.value {R : Type} {o : Oper} {d : Nat} {κ : AV → Option Root → List (Nat × Root) → List Nat → Option R} {r : R} {av : AV} {v : Value} {rt : Option Root} {rs : List (Nat × Root)} {ks : List Nat} (h : κ av rt rs ks = some r)
    (hr : (execOp a.eval o).run P w = .ok (.value v) w') (hs : StepOK elid w g w' g' d av v rt rs ks) : WOK elid P w g a o d κ r := by
  intro K Q hK
  unfold Oper.wp
  rw [hr]
  exact hK _ _ _ _ _ _ _ h hs
theorem WOK.skip {R : Type} {o : Oper} {d : Nat} {κ : AV → Option Root → List (Nat × Root) → List Nat → Option R} {r : R} {av : AV} {rt : Option Root} {rs : List (Nat × Root)} {ks : List Nat} (h : κ av rt rs ks = some r)
    (hr : (execOp a.eval o).run P w = .ok .skip w') (hs : StepOK elid w g w' g' d av undef rt rs ks) : WOK elid P w g a o d κ r := by
  intro K Q hK
  unfold Oper.wp
  rw [hr]
  exact hK _ _ _ _ _ _ _ h hs

theorem avCells_get (l : List AV) (j : Nat) : (avCells l)[j]? = (l[j]?).map Cell.av := by simp [avCells]

theorem run_storeVar {T : TypeId} {i : TyI} (hT : TyOK P elid T i) {b o : Nat} {v : Value} (hl : v.cells.toList.length = i.size)
    (hc : ∀ j, j < v.cells.toList.length → (w.cell? ⟨b, o + j, none⟩).isSome = true ∧ w.frozen? ⟨b, o + j, none⟩ = false) (h1 : ∀ u ∈ v.cells.toList, u.oneCell' = true) :
    (storeVar T ⟨b, o, none⟩ v).run P w = .ok () (w.setCells b o v.cells.toList) := by
  have := run_storeCells_cells (P := P) b o v.cells.toList 0 w (fun j hj => by simpa using (hc j hj).1) (fun j hj => by simpa using (hc j hj).2) h1
  unfold storeVar
  have hsz : v.cells.size = i.size := by simpa using hl
  simp only [Sem.run_bind, run_sizeOf_ty hT, Result.andThen_ok, hsz, ne_eq, not_true, if_false, Nat.add_zero] at this ⊢
  exact this

theorem run_store_op {o : Oper} {T : TypeId} {x y : Operand} {q : Addr} (ho : o.op = .store T x y) (e : a.eval x = .pointer (some q)) (h : (storeVar T q (a.eval y)).run P w = .ok () w') :
    (execOp a.eval o).run P w = .ok .skip w' := by
  unfold execOp; rw [ho]
  simp [Instr.storeAt, e, Instr.sureAddr, h]

theorem killBC_set (k : Nat) (c : Cell) : ∀ (cs : List Cell) (i : Nat), killBC k (cs.set i c) = (killBC k cs).set i (c.killB k)
  | [], _ => rfl
  | _ :: _, 0 => rfl
  | c' :: cs, i + 1 => by simp only [List.set_cons_succ, killBC, killBC_set k c cs i]
/-- A slice of one's own is laid into a box, as its part. -/
theorem store_into {s i s' j' d : Nat} {cs : List Cell} {u : El} {fz : Bool} {ys : List u.den} {v v0 : Value} (hS : Rel elid n w g S a) (hr : S.root s = some ⟨true, cs⟩) (hi : i < cs.length) (hc : S.cell s' j' = some (.sl u fz ys)) (hne : s' ≠ s) (hv : v = g.hs s' j') :
    ∃ g', StepOK elid w g (w.setCells (g.hb s).1 ((g.hb s).2 + i) [v]) g' d .und v0 none ((S.setCell s' j' (.av .und)).setCell s i (.sl u true ys)).roots [s] := by
  obtain ⟨r', hr', hcj⟩ := cell_root hc
  have hR' := hS.root hr'
  obtain ⟨g1, h1, hR1'⟩ : ∃ g1, Frz g g1 s' ∧ RepR elid w g1 s' ⟨r'.box, r'.cs.set j' (.sl u true ys)⟩ := by
    cases fz with
    | false => exact hR'.raise hcj
    | true =>
      refine ⟨g, .refl g s', ?_⟩
      have : r'.cs.set j' (.sl u true ys) = r'.cs := by
        refine List.ext_getElem? fun k => ?_
        rw [List.getElem?_set]
        by_cases e : j' = k
        · subst e
          have hlt := (List.getElem?_eq_some_iff.mp hcj).1
          rw [if_pos rfl, if_pos hlt, hcj]
        · rw [if_neg e]
      rw [this]; exact hR'
  have hj'l : j' < r'.cs.length := (List.getElem?_eq_some_iff.mp hcj).1
  have RS : RepS elid w g1 s' j' u true ys := hR1'.sl (by simp [hj'l])
  have hR1 : RepR elid w g1 s ⟨true, cs⟩ := (hS.root hr).frz h1 (fun e => hne e.symm)
  obtain ⟨vals, hb⟩ := hR1.box rfl
  have ehb : g1.hb s = g.hb s := by rw [h1.hb]
  have hbi := hb i hi
  rw [ehb] at hbi
  have hchg := chg_setCells w (g.hb s).1 ((g.hb s).2 + i) [v]
  have hM : ∀ b o', b < w.heap.size → (b = (g.hb s).1 ∧ (g.hb s).2 + i ≤ o' ∧ o' < (g.hb s).2 + i + [v].length) → g1.who b o' = .obj s none := by
    rintro b o' _ ⟨rfl, q1, q2⟩
    simp only [List.length_cons, List.length_nil] at q2
    obtain rfl : o' = (g.hb s).2 + i := by omega
    exact hbi.2.1
  have hMe : ∀ b o', b < w.heap.size → (b = (g.hb s).1 ∧ (g.hb s).2 + i ≤ o' ∧ o' < (g.hb s).2 + i + [v].length) → ∃ s x, g1.who b o' = .obj s x := fun b o' hb hm => ⟨_, _, hM b o' hb hm⟩
  have RS' : RepS elid (w.setCells (g.hb s).1 ((g.hb s).2 + i) [v]) g1 s' j' u true ys :=
    RS.pres hchg (GChg.refl w g1 fun _ _ => False).ga (fun _ _ _ h => h) (fun b o' hb hm => ⟨_, _, hM b o' hb hm, .inl fun e => hne e.symm⟩) (fun h => h)
  have hcell : World.cell? (w.setCells (g.hb s).1 ((g.hb s).2 + i) [v]) ⟨(g.hb s).1, (g.hb s).2 + i, none⟩ = some v := by
    have := World.cell?_setCells_in (g.hb s).1 [v] ((g.hb s).2 + i) w (fun q hq => by
      obtain rfl : q = 0 := by simpa using hq
      rw [Nat.add_zero, hbi.2.2.1]; rfl) 0 (by simp)
    simpa using this
  -- the box, with a hole
  have hRs : RepR elid (w.setCells (g.hb s).1 ((g.hb s).2 + i) [v]) g1 s ⟨true, cs.set i (.av .und)⟩ := by
    refine ⟨fun e => (by cases e), fun _ => ⟨fun k => if k = i then v else vals k, fun k hk => ?_⟩⟩
    have hk' : k < cs.length := by simpa using hk
    obtain ⟨q1, q2, q3, q4, q5⟩ := hb k hk'
    rw [ehb] at q1 q2 q3 q4 ⊢
    refine ⟨Nat.lt_of_lt_of_le q1 hchg.size, q2, ?_, ?_, ?_⟩
    · by_cases e : k = i
      · subst e; simp only [if_true]; exact hcell
      · simp only [if_neg e]
        rw [World.cell?_setCells_out _ _ _ _ _ (fun _ _ => by show (g.hb s).2 + k < _ ∨ _ ≤ (g.hb s).2 + k; simp only [List.length_cons, List.length_nil]; omega)]
        exact q3
    · rw [World.frozen?_setCells]; exact q4
    · simp only [List.getElem_set]
      by_cases e : k = i
      · subst e
        simp only [if_true]
        exact .av _ _ (.und _)
      · simp only [if_neg e, if_neg fun h => e (Eq.symm h)]
        exact q5.pres hchg (GChg.refl w g1 fun _ _ => False).ga (fun b o' hb hm => ⟨_, _, hM b o' hb hm, .inr (by simp)⟩) (fun _ _ _ h => h) (fun h => h) (fun b _ => avoids_none b)
  have hv1 : v = g1.hs s' j' := by rw [h1.hs]; exact hv
  have hAv : ∀ {b : AV}, Avoids (fun q x => q ∈ [s] ∧ x ≠ none) b → Avoids (fun q x => q = s ∧ x = some i) b := fun h => h.mono fun q x ⟨e1, e2⟩ => ⟨by rw [e1]; simp, by rw [e2]; simp⟩
  have hkill : ∀ {cs' : List Cell} {b : AV}, Cell.av b ∈ killBC s cs' → Avoids (fun q x => q = s ∧ x = some i) b := by
    intro cs' b hb
    obtain ⟨c, _, rfl⟩ := mem_killBC hb
    exact (killB_avoids s c).mono fun q x ⟨e1, e2⟩ => ⟨e1, by rw [e2]; simp⟩
  have i1 : Inv w g w g1 := h1.inv w
  have i2 : Inv w g1 (w.setCells (g.hb s).1 ((g.hb s).2 + i) [v]) g1 := ⟨hchg.mono hMe, fun _ _ _ h => h, fun _ _ _ h => h, fun _ _ _ h => h, fun _ _ => rfl⟩
  refine ⟨gMove g1 s' j' s i v, (i1.trans i2).trans move_inv, fun b x hb _ hav => ?_, .und _, fun _ q r hq => ?_, fun h => absurd rfl h, fun q h => by cases h⟩
  · exact ((hb.frz h1).same hchg hMe).move (hAv hav)
  · have hr2 : (S.setCell s' j' (.av .und)).root s = some ⟨true, cs⟩ := by
      have := look_setCell (c := .av .und) (j := j') hr' s
      rw [if_neg fun e => hne e.symm] at this
      exact this.trans hr
    rw [look_setCell hr2] at hq
    show RepR elid _ _ q ⟨r.box, killBC s r.cs⟩
    by_cases e : q = s
    · subst e
      rw [if_pos rfl] at hq
      cases hq
      have m1 := (hRs.killB q).move (s := s') (j := j') (s' := q) (j' := i) (v := v) (fun k t fz xs hk => ⟨fun ⟨e1, _⟩ => hne e1.symm, fun ⟨_, e2⟩ => by
        subst e2
        rw [killBC_sl] at hk
        simp [hi] at hk⟩) (fun b hb => hkill hb)
      have m2 := m1.setSl (i := i) (RS'.moved hv1) (fun _ u' hu' => by
        have e3 : (gMove g1 s' j' q i v).hb q = g.hb q := by show g1.hb q = _; exact ehb
        rw [e3, hcell] at hu'
        cases hu'
        simp [gMove])
      simp only [killBC_set, Cell.killB, List.set_set] at m2 ⊢
      exact m2
    · rw [if_neg e] at hq
      have hq' := hq
      rw [show (S.setCell s' j' (.av .und)).root q = look q (S.setCell s' j' (.av .und)).roots from rfl, look_setCell hr'] at hq'
      have base : RepR elid (w.setCells (g.hb s).1 ((g.hb s).2 + i) [v]) g1 q r ∧ (q = s' → ∀ t fz xs, r.cs[j']? ≠ some (.sl t fz xs)) := by
        by_cases e2 : q = s'
        · subst e2
          rw [if_pos rfl] at hq'
          cases hq'
          have f1 := hR1'.forget j'
          simp only [List.set_set] at f1
          refine ⟨f1.same hchg (fun b o' hb hm => ⟨_, _, hM b o' hb hm, fun e => hne e.symm⟩), fun _ t fz xs h => ?_⟩
          simp [hj'l] at h
        · rw [if_neg e2] at hq'
          exact ⟨((hS.rt q r hq').frz h1 e2).same hchg (fun b o' hb hm => ⟨_, _, hM b o' hb hm, fun e' => e e'.symm⟩), fun h => absurd h e2⟩
      refine (base.1.killB (b := r.box) (cs := r.cs) s).move (fun k t fz xs hk => ⟨fun ⟨e1, e2⟩ => ?_, fun ⟨e1, _⟩ => e e1⟩) (fun b hb => hkill hb)
      subst e2
      exact base.2 e1 _ _ _ (killBC_sl.1 hk)

theorem stepW_store {R : Type} {E : TypeId → Option TyI} (hE : ∀ T i, E T = some i → TyOK P elid T i) {o : Oper} {κ : AV → Option Root → List (Nat × Root) → List Nat → Option R} {r : R} {T : TypeId} {x y : Operand} {d : Nat}
    (ho : o.op = .store T x y) (h : (match E T with
    | some i => bif Nat.beq (S.ev y).leaves.length i.size && allCells (S.ev y).leaves then storeK S (S.ev x) (S.ev y).leaves (κ .und none) else none
    | none => none) = some r) (hS : Rel elid n w g S a) : WOK elid P w g a o d κ r := by
  split at h
  · rename_i i hi
    have hT := hE T i hi
    cases hc : Nat.beq (S.ev y).leaves.length i.size && allCells (S.ev y).leaves with
    | false => rw [hc] at h; cases h
    | true =>
      rw [hc] at h
      simp only [Bool.and_eq_true] at hc
      have hlen := Nat.eq_of_beq_eq_true hc.1
      have hcells := allCells_mem hc.2
      have hyy := hS.ev y
      have hl : RepL w g (S.ev y).leaves (a.eval y).cells.toList := by
        refine leaves_rep hyy (fun e => ?_) (fun cs e => ?_)
        · rw [e] at hc; simp [AV.leaves, allCells, AV.isCell] at hc
        · rw [e] at hc; simp [AV.leaves, allCells, AV.isCell] at hc
      have hone := hl.one hcells
      have hvl : (a.eval y).cells.toList.length = i.size := by rw [hl.1, hlen]
      have hxx := hS.ev x
      simp only [cond] at h
      unfold storeK at h
      split at h
      · -- a variable
        rename_i s off hx
        rw [hx] at hxx
        have e1 := hxx.ref_inv
        split at h
        · rename_i cs hroot
          cases hb : Nat.ble (off + (S.ev y).leaves.length) cs.length with
          | false => rw [hb] at h; cases h
          | true =>
            rw [hb] at h
            have hle := Nat.le_of_ble_eq_true hb
            simp only [cond] at h
            have hR := hS.root hroot
            obtain ⟨vals, hv⟩ := hR.box rfl
            have hchg := chg_setCells w (g.hb s).1 ((g.hb s).2 + off) (a.eval y).cells.toList
            have hM : ∀ b o', b < w.heap.size → (b = (g.hb s).1 ∧ (g.hb s).2 + off ≤ o' ∧ o' < (g.hb s).2 + off + (a.eval y).cells.toList.length) → g.who b o' = .obj s none := by
              rintro b o' _ ⟨rfl, h1, h2⟩
              have hj : o' - (g.hb s).2 < cs.length := by rw [hl.1] at h2; omega
              have := (hv _ hj).2.1
              rwa [show (g.hb s).2 + (o' - (g.hb s).2) = o' by omega] at this
            have hcell : ∀ j, j < (a.eval y).cells.toList.length → (w.cell? ⟨(g.hb s).1, (g.hb s).2 + off + j, none⟩).isSome = true ∧ w.frozen? ⟨(g.hb s).1, (g.hb s).2 + off + j, none⟩ = false := by
              intro j hj
              have hj' : off + j < cs.length := by rw [hl.1] at hj; omega
              obtain ⟨_, _, h3, h4, _⟩ := hv _ hj'
              rw [← Nat.add_assoc] at h3 h4
              exact ⟨by rw [h3]; rfl, h4⟩
            refine WOK.skip (g' := g) h ?_ (.plain hchg (fun b o' hb hm => ⟨_, _, hM b o' hb hm⟩) (.und _) (fun s' r' hs' => ?_))
            · exact run_store_op ho e1 (run_storeVar hT hvl hcell hone)
            · rw [look_put1] at hs'
              by_cases hss : s' = s
              · subst hss
                rw [if_pos rfl] at hs'
                cases hs'
                have hRsame := hR
                refine ⟨fun e => (by cases e), fun _ => ⟨fun j => (setRange (List.ofFn fun q : Fin cs.length => vals q) off (a.eval y).cells.toList).getD j undef, fun j hj => ?_⟩⟩
                have hlc : (avCells (S.ev y).leaves).length = (S.ev y).leaves.length := by simp [avCells]
                have hj' : j < cs.length := by rw [setRange_length _ _ _ (by rw [hlc]; exact hle)] at hj; exact hj
                obtain ⟨h1, h2, h3, h4, h5⟩ := hv j hj'
                have hvlen : off + (a.eval y).cells.toList.length ≤ (List.ofFn fun q : Fin cs.length => vals q).length := by rw [hl.1, List.length_ofFn]; exact hle
                have hval : (setRange (List.ofFn fun q : Fin cs.length => vals q) off (a.eval y).cells.toList).getD j undef = if off ≤ j ∧ j < off + (a.eval y).cells.toList.length then (a.eval y).cells.toList.getD (j - off) undef else vals j := by
                  rw [List.getD_eq_getElem?_getD, setRange_get _ _ _ hvlen]
                  split
                  · rw [List.getD_eq_getElem?_getD]
                  · simp [hj']
                have hcellj : (setRange cs off (avCells (S.ev y).leaves))[j]? = if off ≤ j ∧ j < off + (S.ev y).leaves.length then ((S.ev y).leaves[j - off]?).map Cell.av else cs[j]? := by
                  rw [setRange_get _ _ _ (by rw [hlc]; exact hle), hlc, avCells_get]
                refine ⟨Nat.lt_of_lt_of_le h1 hchg.size, h2, ?_, ?_, ?_⟩
                · show World.cell? _ _ = some ((setRange (List.ofFn fun q : Fin cs.length => vals q) off (a.eval y).cells.toList).getD j undef)
                  rw [hval]
                  by_cases hin : off ≤ j ∧ j < off + (a.eval y).cells.toList.length
                  · rw [if_pos hin]
                    have := World.cell?_setCells_in (g.hb s').1 (a.eval y).cells.toList ((g.hb s').2 + off) w (fun q hq => (hcell q hq).1) (j - off) (by omega)
                    rw [show (g.hb s').2 + off + (j - off) = (g.hb s').2 + j by omega] at this
                    rw [this]
                    have hq : j - off < (a.eval y).cells.toList.length := by omega
                    rw [List.getD_eq_getElem?_getD, List.getElem?_eq_getElem hq]; rfl
                  · rw [if_neg hin, World.cell?_setCells_out _ _ _ _ _ (fun _ _ => by show (g.hb s').2 + j < _ ∨ _ ≤ (g.hb s').2 + j; omega)]
                    exact h3
                · rw [World.frozen?_setCells]; exact h4
                · have hg1 : (setRange cs off (avCells (S.ev y).leaves))[j]? = some (setRange cs off (avCells (S.ev y).leaves))[j] := List.getElem?_eq_getElem hj
                  rw [hcellj] at hg1
                  show RepC elid _ _ _ _ _ ((setRange (List.ofFn fun q : Fin cs.length => vals q) off (a.eval y).cells.toList).getD j undef)
                  rw [hval]
                  by_cases hin : off ≤ j ∧ j < off + (S.ev y).leaves.length
                  · rw [if_pos hin] at hg1
                    rw [if_pos (by rw [hl.1]; exact hin)]
                    have q1 : j - off < (S.ev y).leaves.length := by omega
                    have q2 : j - off < (a.eval y).cells.toList.length := by rw [hl.1]; omega
                    rw [List.getElem?_eq_getElem q1] at hg1
                    simp only [Option.map_some, Option.some.injEq] at hg1
                    rw [← hg1, List.getD_eq_getElem?_getD, List.getElem?_eq_getElem q2]
                    exact .av _ _ ((hl.2 _ q1 q2).same hchg (fun b o' hb hm => ⟨_, _, hM b o' hb hm⟩))
                  · rw [if_neg hin, List.getElem?_eq_getElem hj'] at hg1
                    simp only [Option.some.injEq] at hg1
                    rw [if_neg (by rw [hl.1]; exact hin), ← hg1]
                    exact h5.pres hchg (GChg.refl w g fun _ _ => False).ga (fun b o' hb hm => ⟨_, _, hM b o' hb hm, .inr (by simp)⟩) (fun _ _ _ h => h) (fun h => h) (fun b _ => avoids_none b)
              · rw [if_neg hss] at hs'
                exact (hS.rt s' r' hs').same hchg (fun b o' hb hm => ⟨_, _, hM b o' hb hm, fun e => hss e.symm⟩)
        · cases h
      · -- an element
        rename_i s j sz k off hx
        rw [hx] at hxx
        split at h
        · rename_i t xs hcell
          cases hz : Nat.beq sz t.size with
          | false => rw [hz] at h; cases h
          | true =>
            rw [hz] at h
            have hz' := Nat.eq_of_beq_eq_true hz
            subst hz'
            simp only [cond] at h
            cases hk : xs[k]? with
            | none => rw [hk] at h; cases h
            | some xv =>
              rw [hk] at h
              simp only [Option.bind_some] at h
              split at h
              · rename_i yv hyv
                cases hz : Nat.ble (off + (S.ev y).leaves.length) t.size with
                | false => rw [hz] at h; cases h
                | true =>
                  rw [hz] at h
                  simp only at h
                  have hz' := Nat.le_of_ble_eq_true hz
                  obtain ⟨root, hroot, hcj⟩ := cell_root hcell
                  have hR := hS.root hroot
                  have hs := hS.cell hcell
                  obtain ⟨vals, hrow, hvl2, hvr⟩ := hs.row
                  have hkl : k < xs.length := (List.getElem?_eq_some_iff.mp hk).1
                  have hoff : off + (S.ev y).leaves.length ≤ t.size := hz'
                  have hblk : (k + 1) * t.size ≤ xs.length * t.size := Nat.mul_le_mul_right _ hkl
                  rw [Nat.add_mul, Nat.one_mul] at hblk
                  cases hxe : a.eval x <;> rw [hxe] at hxx <;> cases hxx
                  case eref b m cap he =>
                    rcases hrow.2 with ⟨e, _⟩ | ⟨b', cap', cur, e, _⟩
                    · rw [e] at he; cases he
                    · have he2 := he
                      rw [e] at he2
                      cases he2
                      rw [e] at hrow
                      obtain ⟨hlt, hwho⟩ := hs.own b _ _ e
                      have hin : k * t.size + off + (a.eval y).cells.toList.length ≤ vals.length := by rw [hvl2, flat_length, hl.1]; omega
                      have hchg := chg_setCells w b (k * t.size + off) (a.eval y).cells.toList
                      have hM : ∀ b1 o', b1 < w.heap.size → (b1 = b ∧ k * t.size + off ≤ o' ∧ o' < k * t.size + off + (a.eval y).cells.toList.length) → g.who b1 o' = .obj s (some j) := by
                        rintro b1 o' _ ⟨rfl, h1, h2⟩
                        have := hwho o'
                        simpa using this
                      have hM' : ∀ b1 o', b1 < w.heap.size → (b1 = b ∧ k * t.size + off ≤ o' ∧ o' < k * t.size + off + (a.eval y).cells.toList.length) → ∃ s x, g.who b1 o' = .obj s x := fun b1 o' hb hm => ⟨_, _, hM b1 o' hb hm⟩
                      refine WOK.skip (g' := g) h ?_ (.plain hchg hM' (.und _) (fun s' r' hs' => ?_))
                      · have hcc : ∀ q, q < (a.eval y).cells.toList.length → (w.cell? ⟨b, k * t.size + off + q, none⟩).isSome = true ∧ w.frozen? ⟨b, k * t.size + off + q, none⟩ = false := by
                          intro q hq
                          refine ⟨?_, hrow.frozenAt _⟩
                          have hq2 : k * t.size + off + q < xs.length * t.size := by rw [hl.1] at hq; omega
                          rw [hrow.cellAt _ hq2, List.getElem?_eq_getElem (by rw [hvl2, flat_length]; exact hq2)]
                          rfl
                        exact run_store_op ho hxe (run_storeVar hT hvl hcc hone)
                      · rw [look_setCell hroot] at hs'
                        by_cases hss : s' = s
                        · subst hss
                          rw [if_pos rfl] at hs'
                          cases hs'
                          refine RepR.rewrite hchg hM hR hcj (fz' := false) ⟨⟨setRange vals (k * t.size + off) (a.eval y).cells.toList, ?_, ?_, ?_⟩, ?_⟩
                          · rw [e, List.length_set]
                            exact ownsRow_setCells _ _ _ _ hrow hin
                          · rw [setRange_length _ _ _ hin, hvl2, flat_length, flat_length, List.length_set]
                          · -- the new list's cells
                            have hvk : RepL w g (t.cells xv) ((vals.drop (k * t.size)).take t.size) := by
                              refine ⟨by have hq1 := flat_length t xs; rw [cells_length, List.length_take, List.length_drop, hvl2]; omega, fun q hq hq' => ?_⟩
                              rw [cells_length] at hq
                              have e2 := flat_get t xs k xv q hk hq
                              have q2 : k * t.size + q < (flat t xs).length := by rw [flat_length]; omega
                              have q3 : q < (t.cells xv).length := by rw [cells_length]; exact hq
                              rw [List.getElem?_eq_getElem q2, List.getElem?_eq_getElem q3] at e2
                              simp only [Option.some.injEq] at e2
                              simp only [List.getElem_take, List.getElem_drop]
                              rw [← e2]
                              exact hvr _ q2 (by rw [hvl2]; exact q2)
                            have hyr : RepL w g (t.cells yv) (setRange ((vals.drop (k * t.size)).take t.size) off (a.eval y).cells.toList) := ofCells_rep hyv (hvk.setRange hl off)
                            have hvs : setRange vals (k * t.size + off) (a.eval y).cells.toList = setRange vals (k * t.size) (setRange ((vals.drop (k * t.size)).take t.size) off (a.eval y).cells.toList) := by
                              have hl1 : ((vals.drop (k * t.size)).take t.size).length = t.size := by
                                have hq1 := flat_length t xs
                                rw [List.length_take, List.length_drop, hvl2]; omega
                              have hl2 : off + (a.eval y).cells.toList.length ≤ ((vals.drop (k * t.size)).take t.size).length := by rw [hl1, hl.1]; exact hoff
                              have hl3 : (setRange ((vals.drop (k * t.size)).take t.size) off (a.eval y).cells.toList).length = t.size := by rw [setRange_length _ _ _ hl2, hl1]
                              apply List.ext_getElem?
                              intro q
                              rw [setRange_get _ _ _ hin, setRange_get _ _ _ (by rw [hl3, hvl2, flat_length]; omega), hl3, setRange_get _ _ _ hl2]
                              by_cases c1 : k * t.size ≤ q ∧ q < k * t.size + t.size
                              · rw [if_pos c1]
                                by_cases c2 : off ≤ q - k * t.size ∧ q - k * t.size < off + (a.eval y).cells.toList.length
                                · rw [if_pos c2, if_pos (by omega)]
                                  congr 1; omega
                                · rw [if_neg c2, if_neg (by omega), List.getElem?_take, if_pos (by omega), List.getElem?_drop]
                                  congr 1; omega
                              · rw [if_neg c1, if_neg (by rw [hl.1]; omega)]
                            have hvr' : RepL w g (flat t xs) vals := ⟨hvl2, hvr⟩
                            have hfin := hvr'.setRange hyr (k * t.size)
                            rw [← hvs, ← flat_set t xs k yv hkl] at hfin
                            exact fun q hq hq' => (hfin.2 q hq hq').same hchg hM'
                          · intro b1 m1 c1 e1
                            rw [e] at e1
                            cases e1
                            refine ⟨Nat.lt_of_lt_of_le hlt hchg.size, fun o' => ?_⟩
                            have := hwho o'
                            simpa using this
                        · rw [if_neg hss] at hs'
                          exact (hS.rt s' r' hs').same hchg (fun b1 o' hb hm => ⟨_, _, hM b1 o' hb hm, fun e => hss e.symm⟩)
              · cases h
        · cases h
      · -- a list into its place
        rename_i s k hx
        rw [hx] at hxx
        split at h
        · rename_i s' j' hlv
          split at h
          · rename_i cs hroot
            split at h
            · rename_i u fz ys hcell
              cases hz : Nat.beq s' s with
              | true => rw [hz] at h; cases h
              | false =>
                rw [hz] at h
                cases hb : Nat.blt k cs.length with
                | false => rw [hb] at h; cases h
                | true =>
                  rw [hb] at h
                  simp only [cond] at h
                  have hk : k < cs.length := Nat.le_of_ble_eq_true hb
                  have hne : s' ≠ s := fun e => by rw [e, Nat.beq_refl] at hz; cases hz
                  rw [hlv] at hl
                  obtain ⟨v, vs, e1, h1, h2⟩ := hl.cons_inv
                  rw [h2.nil_inv] at e1
                  have hv := h1.al_inv.1
                  obtain ⟨g', hok⟩ := store_into (d := d) (v0 := undef) hS hroot hk hcell hne hv
                  rw [← e1] at hok
                  have hxe : a.eval x = .pointer (some ⟨(g.hb s).1, (g.hb s).2 + k, none⟩) := by
                    cases hv : a.eval x <;> rw [hv] at hxx <;> cases hxx; rfl
                  obtain ⟨vals, hbx⟩ := (hS.root hroot).box rfl
                  refine WOK.skip (g' := g') h ?_ hok
                  refine run_store_op ho hxe (run_storeVar hT hvl (fun q hq => ?_) hone)
                  obtain rfl : q = 0 := by rw [e1] at hq; simpa using hq
                  obtain ⟨_, _, h3, h4, _⟩ := hbx k hk
                  rw [Nat.add_zero]
                  exact ⟨by rw [h3]; rfl, h4⟩
            · cases h
          · cases h
        · cases h
      · cases h
  · cases h

end
end Go.Proofs.YtppmpfddcohkjaaA
