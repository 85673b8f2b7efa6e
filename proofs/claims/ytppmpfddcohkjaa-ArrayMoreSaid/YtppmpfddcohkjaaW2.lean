/- Stores, appends, copies. -/
import Derived.Test.YtppmpfddcohkjaaW
namespace Go.Proofs.YtppmpfddcohkjaaA
open Go

section
variable {elid : El → Nat} {n : Nat} {w w' w'' : World} {g g' g'' : Gh} {S : St} {a : Act} {P : Program}

/-- What one operation has done, by the model's rule for it. -/
def WOK {R : Type} (elid : El → Nat) (P : Program) (w : World) (g : Gh) (a : Act) (o : Oper) (d : Nat) (κ : AV → Option Root → List (Nat × Root) → List Nat → Option R) (r : R) : Prop :=
  ∀ (K : Act → World → Prop) (Q : Exit → Act → World → Prop), (∀ av v rt rs ks w' g', κ av rt rs ks = some r → StepOK elid w g w' g' d av v rt rs ks → K (a.put o.dst v) w') → o.wp P a w K Q

theorem WOK.value {R : Type} {o : Oper} {d : Nat} {κ : AV → Option Root → List (Nat × Root) → List Nat → Option R} {r : R} {av : AV} {v : Value} {rt : Option Root} {rs : List (Nat × Root)} {ks : List Nat} (h : κ av rt rs ks = some r)
    (hr : (execOp a.eval o).run P w = .ok (.value v) w') (hs : StepOK elid w g w' g' d av v rt rs ks) : WOK elid P w g a o d κ r := by
  intro K Q hK
  unfold Oper.wp
  rw [hr]
  exact hK _ _ _ _ _ _ _ h hs
theorem WOK.skip {R : Type} {o : Oper} {d : Nat} {κ : AV → Option Root → List (Nat × Root) → List Nat → Option R} {r : R} {av : AV} {rt : Option Root} {rs : List (Nat × Root)} {ks : List Nat} (h : κ av rt rs ks = some r)
    (hr : (execOp a.eval o).run P w = .ok .skip w') (hs : StepOK elid w g w' g' d av undef rt rs ks) : WOK elid P w g a o d κ r := by
  intro K Q hK
  unfold Oper.wp
  rw [hr]
  exact hK _ _ _ _ _ _ _ h hs

theorem avCells_get (l : List AV) (j : Nat) : (avCells l)[j]? = (l[j]?).map Cell.av := by simp [avCells]

theorem run_storeVar {T : TypeId} {i : TyI} (hT : TyOK P elid T i) {b o : Nat} {v : Value} (hl : v.cells.toList.length = i.size)
    (hc : ∀ j, j < v.cells.toList.length → (w.cell? ⟨b, o + j, none⟩).isSome = true ∧ w.frozen? ⟨b, o + j, none⟩ = false) (h1 : ∀ u ∈ v.cells.toList, u.oneCell' = true) :
    (storeVar T ⟨b, o, none⟩ v).run P w = .ok () (w.setCells b o v.cells.toList) := by
  have := run_storeCells_cells (P := P) b o v.cells.toList 0 w (fun j hj => by simpa using (hc j hj).1) (fun j hj => by simpa using (hc j hj).2) h1
  unfold storeVar
  have hsz : v.cells.size = i.size := by simpa using hl
  simp only [Sem.run_bind, run_sizeOf_ty hT, Result.andThen_ok, hsz, ne_eq, not_true, if_false, Nat.add_zero] at this ⊢
  exact this

theorem run_store_op {o : Oper} {T : TypeId} {x y : Operand} {q : Addr} (ho : o.op = .store T x y) (e : a.eval x = .pointer (some q)) (h : (storeVar T q (a.eval y)).run P w = .ok () w') :
    (execOp a.eval o).run P w = .ok .skip w' := by
  unfold execOp; rw [ho]
  simp [Instr.storeAt, e, Instr.sureAddr, h]

theorem stepW_store {R : Type} {E : TypeId → Option TyI} (hE : ∀ T i, E T = some i → TyOK P elid T i) {o : Oper} {κ : AV → Option Root → List (Nat × Root) → List Nat → Option R} {r : R} {T : TypeId} {x y : Operand} {d : Nat}
    (ho : o.op = .store T x y) (h : (match E T with
    | some i => bif Nat.beq (S.ev y).leaves.length i.size && allCells (S.ev y).leaves then storeK S (S.ev x) (S.ev y).leaves (κ .und none) else none
    | none => none) = some r) (hS : Rel elid n w g S a) : WOK elid P w g a o d κ r := by
  split at h
  · rename_i i hi
    have hT := hE T i hi
    cases hc : Nat.beq (S.ev y).leaves.length i.size && allCells (S.ev y).leaves with
    | false => rw [hc] at h; cases h
    | true =>
      rw [hc] at h
      simp only [Bool.and_eq_true] at hc
      have hlen := Nat.eq_of_beq_eq_true hc.1
      have hcells := allCells_mem hc.2
      have hyy := hS.ev y
      have hl : RepL w g (S.ev y).leaves (a.eval y).cells.toList := by
        refine leaves_rep hyy (fun e => ?_) (fun cs e => ?_)
        · rw [e] at hc; simp [AV.leaves, allCells, AV.isCell] at hc
        · rw [e] at hc; simp [AV.leaves, allCells, AV.isCell] at hc
      have hone := hl.one hcells
      have hvl : (a.eval y).cells.toList.length = i.size := by rw [hl.1, hlen]
      have hxx := hS.ev x
      simp only [cond] at h
      unfold storeK at h
      split at h
      · -- a variable
        rename_i s off hx
        rw [hx] at hxx
        have e1 := hxx.ref_inv
        split at h
        · rename_i cs hroot
          cases hb : Nat.ble (off + (S.ev y).leaves.length) cs.length with
          | false => rw [hb] at h; cases h
          | true =>
            rw [hb] at h
            have hle := Nat.le_of_ble_eq_true hb
            simp only [cond] at h
            have hR := hS.root hroot
            obtain ⟨vals, hv⟩ := hR.box rfl
            have hchg := chg_setCells w (g.hb s).1 ((g.hb s).2 + off) (a.eval y).cells.toList
            have hM : ∀ b o', b < w.heap.size → (b = (g.hb s).1 ∧ (g.hb s).2 + off ≤ o' ∧ o' < (g.hb s).2 + off + (a.eval y).cells.toList.length) → g.who b o' = .obj s none := by
              rintro b o' _ ⟨rfl, h1, h2⟩
              have hj : o' - (g.hb s).2 < cs.length := by rw [hl.1] at h2; omega
              have := (hv _ hj).2.1
              rwa [show (g.hb s).2 + (o' - (g.hb s).2) = o' by omega] at this
            have hcell : ∀ j, j < (a.eval y).cells.toList.length → (w.cell? ⟨(g.hb s).1, (g.hb s).2 + off + j, none⟩).isSome = true ∧ w.frozen? ⟨(g.hb s).1, (g.hb s).2 + off + j, none⟩ = false := by
              intro j hj
              have hj' : off + j < cs.length := by rw [hl.1] at hj; omega
              obtain ⟨_, _, h3, h4, _⟩ := hv _ hj'
              rw [← Nat.add_assoc] at h3 h4
              exact ⟨by rw [h3]; rfl, h4⟩
            refine WOK.skip (g' := g) h ?_ (.plain hchg (fun b o' hb hm => ⟨_, _, hM b o' hb hm⟩) (.und _) (fun s' r' hs' => ?_))
            · exact run_store_op ho e1 (run_storeVar hT hvl hcell hone)
            · rw [look_put1] at hs'
              by_cases hss : s' = s
              · subst hss
                rw [if_pos rfl] at hs'
                cases hs'
                have hRsame := hR
                refine ⟨fun e => (by cases e), fun _ => ⟨fun j => (setRange (List.ofFn fun q : Fin cs.length => vals q) off (a.eval y).cells.toList).getD j undef, fun j hj => ?_⟩⟩
                have hlc : (avCells (S.ev y).leaves).length = (S.ev y).leaves.length := by simp [avCells]
                have hj' : j < cs.length := by rw [setRange_length _ _ _ (by rw [hlc]; exact hle)] at hj; exact hj
                obtain ⟨h1, h2, h3, h4, h5⟩ := hv j hj'
                have hvlen : off + (a.eval y).cells.toList.length ≤ (List.ofFn fun q : Fin cs.length => vals q).length := by rw [hl.1, List.length_ofFn]; exact hle
                have hval : (setRange (List.ofFn fun q : Fin cs.length => vals q) off (a.eval y).cells.toList).getD j undef = if off ≤ j ∧ j < off + (a.eval y).cells.toList.length then (a.eval y).cells.toList.getD (j - off) undef else vals j := by
                  rw [List.getD_eq_getElem?_getD, setRange_get _ _ _ hvlen]
                  split
                  · rw [List.getD_eq_getElem?_getD]
                  · simp [hj']
                have hcellj : (setRange cs off (avCells (S.ev y).leaves))[j]? = if off ≤ j ∧ j < off + (S.ev y).leaves.length then ((S.ev y).leaves[j - off]?).map Cell.av else cs[j]? := by
                  rw [setRange_get _ _ _ (by rw [hlc]; exact hle), hlc, avCells_get]
                refine ⟨Nat.lt_of_lt_of_le h1 hchg.size, h2, ?_, ?_, ?_⟩
                · show World.cell? _ _ = some ((setRange (List.ofFn fun q : Fin cs.length => vals q) off (a.eval y).cells.toList).getD j undef)
                  rw [hval]
                  by_cases hin : off ≤ j ∧ j < off + (a.eval y).cells.toList.length
                  · rw [if_pos hin]
                    have := World.cell?_setCells_in (g.hb s').1 (a.eval y).cells.toList ((g.hb s').2 + off) w (fun q hq => (hcell q hq).1) (j - off) (by omega)
                    rw [show (g.hb s').2 + off + (j - off) = (g.hb s').2 + j by omega] at this
                    rw [this]
                    have hq : j - off < (a.eval y).cells.toList.length := by omega
                    rw [List.getD_eq_getElem?_getD, List.getElem?_eq_getElem hq]; rfl
                  · rw [if_neg hin, World.cell?_setCells_out _ _ _ _ _ (fun _ _ => by show (g.hb s').2 + j < _ ∨ _ ≤ (g.hb s').2 + j; omega)]
                    exact h3
                · rw [World.frozen?_setCells]; exact h4
                · have hg1 : (setRange cs off (avCells (S.ev y).leaves))[j]? = some (setRange cs off (avCells (S.ev y).leaves))[j] := List.getElem?_eq_getElem hj
                  rw [hcellj] at hg1
                  show RepC elid _ _ _ _ _ ((setRange (List.ofFn fun q : Fin cs.length => vals q) off (a.eval y).cells.toList).getD j undef)
                  rw [hval]
                  by_cases hin : off ≤ j ∧ j < off + (S.ev y).leaves.length
                  · rw [if_pos hin] at hg1
                    rw [if_pos (by rw [hl.1]; exact hin)]
                    have q1 : j - off < (S.ev y).leaves.length := by omega
                    have q2 : j - off < (a.eval y).cells.toList.length := by rw [hl.1]; omega
                    rw [List.getElem?_eq_getElem q1] at hg1
                    simp only [Option.map_some, Option.some.injEq] at hg1
                    rw [← hg1, List.getD_eq_getElem?_getD, List.getElem?_eq_getElem q2]
                    exact .av _ _ ((hl.2 _ q1 q2).same hchg (fun b o' hb hm => ⟨_, _, hM b o' hb hm⟩))
                  · rw [if_neg hin, List.getElem?_eq_getElem hj'] at hg1
                    simp only [Option.some.injEq] at hg1
                    rw [if_neg (by rw [hl.1]; exact hin), ← hg1]
                    exact h5.pres hchg (GChg.refl w g fun _ _ => False).ga (fun b o' hb hm => ⟨_, _, hM b o' hb hm, .inr (by simp)⟩) (fun _ _ _ h => h) (fun h => h) (fun b _ => avoids_none b)
              · rw [if_neg hss] at hs'
                exact (hS.rt s' r' hs').same hchg (fun b o' hb hm => ⟨_, _, hM b o' hb hm, fun e => hss e.symm⟩)
        · cases h
      · -- an element
        rename_i s j sz k off hx
        rw [hx] at hxx
        split at h
        · rename_i t xs hcell
          cases hz : Nat.beq sz t.size with
          | false => rw [hz] at h; cases h
          | true =>
            rw [hz] at h
            have hz' := Nat.eq_of_beq_eq_true hz
            subst hz'
            simp only [cond] at h
            cases hk : xs[k]? with
            | none => rw [hk] at h; cases h
            | some xv =>
              rw [hk] at h
              simp only [Option.bind_some] at h
              split at h
              · rename_i yv hyv
                cases hz : Nat.ble (off + (S.ev y).leaves.length) t.size with
                | false => rw [hz] at h; cases h
                | true =>
                  rw [hz] at h
                  simp only at h
                  have hz' := Nat.le_of_ble_eq_true hz
                  obtain ⟨root, hroot, hcj⟩ := cell_root hcell
                  have hR := hS.root hroot
                  have hs := hS.cell hcell
                  obtain ⟨vals, hrow, hvl2, hvr⟩ := hs.row
                  have hkl : k < xs.length := (List.getElem?_eq_some_iff.mp hk).1
                  have hoff : off + (S.ev y).leaves.length ≤ t.size := hz'
                  have hblk : (k + 1) * t.size ≤ xs.length * t.size := Nat.mul_le_mul_right _ hkl
                  rw [Nat.add_mul, Nat.one_mul] at hblk
                  cases hxe : a.eval x <;> rw [hxe] at hxx <;> cases hxx
                  case eref b m cap he =>
                    rcases hrow.2 with ⟨e, _⟩ | ⟨b', cap', cur, e, _⟩
                    · rw [e] at he; cases he
                    · have he2 := he
                      rw [e] at he2
                      cases he2
                      rw [e] at hrow
                      obtain ⟨hlt, hwho⟩ := hs.own b _ _ e
                      have hin : k * t.size + off + (a.eval y).cells.toList.length ≤ vals.length := by rw [hvl2, flat_length, hl.1]; omega
                      have hchg := chg_setCells w b (k * t.size + off) (a.eval y).cells.toList
                      have hM : ∀ b1 o', b1 < w.heap.size → (b1 = b ∧ k * t.size + off ≤ o' ∧ o' < k * t.size + off + (a.eval y).cells.toList.length) → g.who b1 o' = .obj s (some j) := by
                        rintro b1 o' _ ⟨rfl, h1, h2⟩
                        have := hwho o'
                        simpa using this
                      have hM' : ∀ b1 o', b1 < w.heap.size → (b1 = b ∧ k * t.size + off ≤ o' ∧ o' < k * t.size + off + (a.eval y).cells.toList.length) → ∃ s x, g.who b1 o' = .obj s x := fun b1 o' hb hm => ⟨_, _, hM b1 o' hb hm⟩
                      refine WOK.skip (g' := g) h ?_ (.plain hchg hM' (.und _) (fun s' r' hs' => ?_))
                      · have hcc : ∀ q, q < (a.eval y).cells.toList.length → (w.cell? ⟨b, k * t.size + off + q, none⟩).isSome = true ∧ w.frozen? ⟨b, k * t.size + off + q, none⟩ = false := by
                          intro q hq
                          refine ⟨?_, hrow.frozenAt _⟩
                          have hq2 : k * t.size + off + q < xs.length * t.size := by rw [hl.1] at hq; omega
                          rw [hrow.cellAt _ hq2, List.getElem?_eq_getElem (by rw [hvl2, flat_length]; exact hq2)]
                          rfl
                        exact run_store_op ho hxe (run_storeVar hT hvl hcc hone)
                      · rw [look_setCell hroot] at hs'
                        by_cases hss : s' = s
                        · subst hss
                          rw [if_pos rfl] at hs'
                          cases hs'
                          refine RepR.rewrite hchg hM hR hcj (fz' := false) ⟨⟨setRange vals (k * t.size + off) (a.eval y).cells.toList, ?_, ?_, ?_⟩, ?_⟩
                          · rw [e, List.length_set]
                            exact ownsRow_setCells _ _ _ _ hrow hin
                          · rw [setRange_length _ _ _ hin, hvl2, flat_length, flat_length, List.length_set]
                          · -- the new list's cells
                            have hvk : RepL w g (t.cells xv) ((vals.drop (k * t.size)).take t.size) := by
                              refine ⟨by have hq1 := flat_length t xs; rw [cells_length, List.length_take, List.length_drop, hvl2]; omega, fun q hq hq' => ?_⟩
                              rw [cells_length] at hq
                              have e2 := flat_get t xs k xv q hk hq
                              have q2 : k * t.size + q < (flat t xs).length := by rw [flat_length]; omega
                              have q3 : q < (t.cells xv).length := by rw [cells_length]; exact hq
                              rw [List.getElem?_eq_getElem q2, List.getElem?_eq_getElem q3] at e2
                              simp only [Option.some.injEq] at e2
                              simp only [List.getElem_take, List.getElem_drop]
                              rw [← e2]
                              exact hvr _ q2 (by rw [hvl2]; exact q2)
                            have hyr : RepL w g (t.cells yv) (setRange ((vals.drop (k * t.size)).take t.size) off (a.eval y).cells.toList) := ofCells_rep hyv (hvk.setRange hl off)
                            have hvs : setRange vals (k * t.size + off) (a.eval y).cells.toList = setRange vals (k * t.size) (setRange ((vals.drop (k * t.size)).take t.size) off (a.eval y).cells.toList) := by
                              have hl1 : ((vals.drop (k * t.size)).take t.size).length = t.size := by
                                have hq1 := flat_length t xs
                                rw [List.length_take, List.length_drop, hvl2]; omega
                              have hl2 : off + (a.eval y).cells.toList.length ≤ ((vals.drop (k * t.size)).take t.size).length := by rw [hl1, hl.1]; exact hoff
                              have hl3 : (setRange ((vals.drop (k * t.size)).take t.size) off (a.eval y).cells.toList).length = t.size := by rw [setRange_length _ _ _ hl2, hl1]
                              apply List.ext_getElem?
                              intro q
                              rw [setRange_get _ _ _ hin, setRange_get _ _ _ (by rw [hl3, hvl2, flat_length]; omega), hl3, setRange_get _ _ _ hl2]
                              by_cases c1 : k * t.size ≤ q ∧ q < k * t.size + t.size
                              · rw [if_pos c1]
                                by_cases c2 : off ≤ q - k * t.size ∧ q - k * t.size < off + (a.eval y).cells.toList.length
                                · rw [if_pos c2, if_pos (by omega)]
                                  congr 1; omega
                                · rw [if_neg c2, if_neg (by omega), List.getElem?_take, if_pos (by omega), List.getElem?_drop]
                                  congr 1; omega
                              · rw [if_neg c1, if_neg (by rw [hl.1]; omega)]
                            have hvr' : RepL w g (flat t xs) vals := ⟨hvl2, hvr⟩
                            have hfin := hvr'.setRange hyr (k * t.size)
                            rw [← hvs, ← flat_set t xs k yv hkl] at hfin
                            exact fun q hq hq' => (hfin.2 q hq hq').same hchg hM'
                          · intro b1 m1 c1 e1
                            rw [e] at e1
                            cases e1
                            refine ⟨Nat.lt_of_lt_of_le hlt hchg.size, fun o' => ?_⟩
                            have := hwho o'
                            simpa using this
                        · rw [if_neg hss] at hs'
                          exact (hS.rt s' r' hs').same hchg (fun b1 o' hb hm => ⟨_, _, hM b1 o' hb hm, fun e => hss e.symm⟩)
              · cases h
        · cases h
      · cases h
  · cases h

end
end Go.Proofs.YtppmpfddcohkjaaA
