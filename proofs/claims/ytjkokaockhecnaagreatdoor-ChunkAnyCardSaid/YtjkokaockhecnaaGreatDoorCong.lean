/- One operation looks at its operands and at what is owned. -/
import Derived.Test.YtjkokaockhecnaaGreatDoorPar
namespace Go.Proofs.YtjkokaockhecnaaGreatDoorA
open Go

section
variable {R : Type} {S S' : St}

theorem root_congr (h : S'.roots = S.roots) (s : Nat) : S'.root s = S.root s := by unfold St.root; rw [h]
theorem cell_congr (h : S'.roots = S.roots) (s j : Nat) : S'.cell s j = S.cell s j := by unfold St.cell; rw [root_congr h]
theorem setCell_congr (h : S'.roots = S.roots) (s j : Nat) (c : Cell) : (S'.setCell s j c).roots = (S.setCell s j c).roots := by
  unfold St.setCell
  rw [root_congr h]
  cases S.root s with
  | none => exact h
  | some r => simp only [St.setRoot, h]
theorem loadK_congr (h : S'.roots = S.roots) {el : Option El} {a : AV} {n : Nat} {κ : List AV → Option R} : loadK S' el a n κ = loadK S el a n κ := by
  unfold loadK; simp only [root_congr h, cell_congr h]
theorem indexAddrK_congr (h : S'.roots = S.roots) {t : El} {x i : AV} {κ : AV → Option R} : indexAddrK S' t x i κ = indexAddrK S t x i κ := by
  unfold indexAddrK; simp only [cell_congr h]
theorem lenK_congr (h : S'.roots = S.roots) {ty : Option TyI} {x : AV} {κ : AV → Option R} : lenK S' ty x κ = lenK S ty x κ := by
  unfold lenK; simp only [cell_congr h]
theorem elemsOf_congr (h : S'.roots = S.roots) (t : El) (x : AV) : elemsOf S' t x = elemsOf S t x := by
  unfold elemsOf; simp only [cell_congr h]
theorem bound_congr {o : Option Operand} (h : ∀ x, o = some x → S'.ev x = S.ev x) {y d : Nat} {κ : Nat → Option R} : bound S' o y d κ = bound S o y d κ := by
  unfold bound
  cases o with
  | none => rfl
  | some x => simp only [h x rfl]
theorem evL_map (S : St) : ∀ xs : List Operand, evL S xs = xs.map S.ev
  | [] => rfl
  | x :: xs => by simp [evL, evL_map S xs]
theorem evL_congr {xs : List Operand} (h : ∀ x ∈ xs, S'.ev x = S.ev x) : evL S' xs = evL S xs := by
  rw [evL_map, evL_map]; exact List.map_congr_left h
theorem parts_congr {ps : Array (Nat × Operand)} (h : ∀ x ∈ ps.toList.map (·.2), S'.ev x = S.ev x) : (ps.toList.map fun p => (p.1, S'.ev p.2)) = ps.toList.map fun p => (p.1, S.ev p.2) :=
  List.map_congr_left fun p hp => by rw [h p.2 (List.mem_map_of_mem hp)]

theorem thaw1_congr (h : S'.roots = S.roots) (b : AV) : thaw1 S' b = thaw1 S b := by
  unfold thaw1; simp only [cell_congr h]
theorem thawA_congr (h : S'.roots = S.roots) (b : AV) : thawA S' b = thawA S b := by
  unfold thawA
  split
  · congr 1; exact List.map_congr_left fun x _ => thaw1_congr h x
  · exact thaw1_congr h _
theorem partsT_congr (hr : S'.roots = S.roots) {ps : Array (Nat × Operand)} (h : ∀ x ∈ ps.toList.map (·.2), S'.ev x = S.ev x) : (ps.toList.map fun p => (p.1, thawA S' (S'.ev p.2))) = ps.toList.map fun p => (p.1, thawA S (S.ev p.2)) :=
  List.map_congr_left fun p hp => by rw [h p.2 (List.mem_map_of_mem hp), thawA_congr hr]
theorem stepV_congr {E : TypeId → Option TyI} {o : Oper} {κ : AV → Option Root → Option R} (hr : S'.roots = S.roots) (h : ∀ x ∈ o.op.operands, S'.ev x = S.ev x) : stepV E o S' κ = stepV E o S κ := by
  unfold stepV
  cases ho : o.op <;> rw [ho] at h <;> simp only [Op.operands] at h <;> try rfl
  case move x => simp only [h x (by simp)]
  case assign x => simp only [h x (by simp)]
  case pick c x y => simp only [h c (by simp), h x (by simp), h y (by simp)]
  case nilCheck x => simp only [h x (by simp)]
  case binOp op T x y c => simp only [h x (by simp), h y (by simp)]
  case unOp op T x => simp only [h x (by simp)]
  case extract x i => simp only [h x (by simp)]
  case box T x => simp only [h x (by simp)]
  case load T x => simp only [h x (by simp), loadK_congr hr]
  case fieldAddr T x f => simp only [h x (by simp)]
  case field T x f => simp only [h x (by simp)]
  case indexAddr T x i => simp only [h x (by simp), h i (by simp), indexAddrK_congr hr]
  case index T x i => simp only [h x (by simp), h i (by simp)]
  case slice T x lo hi mx =>
    cases mx with
    | some m => rfl
    | none =>
      have hlo : ∀ y, lo = some y → S'.ev y = S.ev y := fun y e => h y (by subst e; simp)
      have hhi : ∀ y, hi = some y → S'.ev y = S.ev y := fun y e => h y (by subst e; simp)
      simp only [h x (by simp), cell_congr hr, bound_congr hlo, bound_congr hhi]
  case convert a b x => simp only [h x (by simp), elemsOf_congr hr]
  case build T ps => simp only [parts_congr (S := S) (S' := S') (ps := ps) fun x hx => h x (by simpa using hx)]
  case buildSlice T n ps => simp only [partsT_congr hr (ps := ps) fun x hx => h x (by simpa using hx)]
  case makeSlice T l c => simp only [h l (by simp), h c (by simp)]
  case makeFunc fn first captured =>
    cases fn with
    | func f =>
      have := evL_congr (S := S) (S' := S') (xs := captured.toList) fun x hx => h x (by simp at hx ⊢; exact .inr hx)
      simp only [this]
    | _ => rfl
  case call c =>
    simp only [Call.operands] at h
    have hargs : ∀ x ∈ c.args.toList, S'.ev x = S.ev x := fun x hx => h x (by simp at hx ⊢; exact .inr hx)
    have hL := evL_congr hargs
    simp only [hL]
    split
    · rename_i hc
      split
      · rename_i x T hx hT
        rw [hargs x (by rw [hx]; simp), lenK_congr hr]
      · rfl
    · rfl
    · rfl
    · rfl

theorem leafAV_congr (h : S'.roots = S.roots) (l : Bool) (k : LK) (a : AV) : leafAV l S' k a = leafAV l S k a := by
  unfold leafAV; simp only [cell_congr h]
theorem leavesAV_congr (h : S'.roots = S.roots) (l : Bool) : ∀ (ks : List LK) (as : List AV), leavesAV l S' ks as = leavesAV l S ks as
  | [], [] => rfl
  | k :: ks, a :: as => by simp only [leavesAV, leafAV_congr h, leavesAV_congr h l ks as]
  | [], _ :: _ => rfl
  | _ :: _, [] => rfl
theorem anyAV_congr (h : S'.roots = S.roots) (l : Bool) (a : AV) : anyAV l S' a = anyAV l S a := by
  unfold anyAV; simp only [cell_congr h]
theorem anysAV_congr (h : S'.roots = S.roots) (l : Bool) : ∀ as : List AV, anysAV l S' as = anysAV l S as
  | [] => rfl
  | a :: as => by simp only [anysAV, anyAV_congr h, anysAV_congr h l as]
theorem roAny_congr (h : S'.roots = S.roots) (l : Bool) (a : AV) : roAny l S' a = roAny l S a := by
  unfold roAny; simp only [root_congr h, anysAV_congr h]
theorem rosAV_congr (h : S'.roots = S.roots) (l : Bool) : ∀ as : List AV, rosAV l S' as = rosAV l S as
  | [] => rfl
  | a :: as => by simp only [rosAV, roAny_congr h, rosAV_congr h l as]
theorem argQ_congr (h : S'.roots = S.roots) (l : Bool) (k : PK) (a : AV) : argQ l S' k a = argQ l S k a := by
  unfold argQ roAV; simp only [root_congr h, leafAV_congr h, leavesAV_congr h, rosAV_congr h]
theorem argsQ_congr (h : S'.roots = S.roots) (l : Bool) : ∀ (ks : List PK) (as : List AV), argsQ l S' ks as = argsQ l S ks as
  | [], [] => rfl
  | k :: ks, a :: as => by simp only [argsQ, argQ_congr h, argsQ_congr h l ks as]
  | [], _ :: _ => rfl
  | _ :: _, [] => rfl
theorem calleeOf_congr {c : Call} (h : ∀ x ∈ c.operands, S'.ev x = S.ev x) : calleeOf S' c = calleeOf S c := by
  unfold calleeOf
  have hL := evL_congr (S := S) (S' := S') (xs := c.args.toList) fun x hx => h x (by simp [Call.operands] at hx ⊢; exact .inr hx)
  split
  · rename_i x hc
    rw [h x (by simp [Call.operands, hc]), hL]
  · rfl
theorem stepC_congr {E : Env} {lv : Lv E.sig} {o : Oper} {c : Call} {κ : AV → Option Root → Option R} (hr : S'.roots = S.roots) (h : ∀ x ∈ c.operands, S'.ev x = S.ev x) : stepC E lv o c S' κ = stepC E lv o c S κ := by
  unfold stepC
  simp only [calleeOf_congr h, argsQ_congr hr]
theorem stepQ_congr {E : Env} {lv : Lv E.sig} {o : Oper} {κ : AV → Option Root → Option R} (hr : S'.roots = S.roots) (h : ∀ x ∈ o.op.operands, S'.ev x = S.ev x) : stepQ E lv o S' κ = stepQ E lv o S κ := by
  unfold stepQ
  split
  · rename_i c ho
    split
    · exact stepV_congr hr h
    · exact stepC_congr hr (by rw [ho] at h; exact h)
  · exact stepV_congr hr h

/-! ### Operations that change what is owned -/
theorem leafW_congr (h : S'.roots = S.roots) (k : LK) (a : AV) : leafW S' k a = leafW S k a := by
  unfold leafW; simp only [cell_congr h, leafAV_congr h]
theorem leavesW_congr (h : S'.roots = S.roots) : ∀ (ks : List LK) (as : List AV), leavesW S' ks as = leavesW S ks as
  | [], [] => rfl
  | k :: ks, a :: as => by simp only [leavesW, leafW_congr h, leavesW_congr h ks as]
  | [], _ :: _ => rfl
  | _ :: _, [] => rfl
theorem boxCells_congr (h : S'.roots = S.roots) (s : Nat) : ∀ (j : Nat) (ks : List LK) (cs : List Cell), boxCells S' s j ks cs = boxCells S s j ks cs := by
  intro j ks
  induction ks generalizing j with
  | nil => intro cs; cases cs <;> simp [boxCells]
  | cons k ks ih =>
    intro cs
    cases cs with
    | nil => simp [boxCells]
    | cons c cs =>
      cases c with
      | av a => simp only [boxCells, leafW_congr h, ih]
      | sl u fz xs =>
        cases k <;> try (simp [boxCells]; done)
        · cases fz with
          | true => simp only [boxCells, ih]
          | false => simp [boxCells]
        · simp only [boxCells, ih]
theorem argW_congr {T T' : St} (h : S'.roots = S.roots) (h' : T'.roots = T.roots) (l : Bool) (k : PK) (a : AV) : argW l S' T' k a = argW l S T k a := by
  unfold argW; simp only [root_congr h, argQ_congr h', leafW_congr h, leavesW_congr h, boxCells_congr h]
theorem argsW_congr {T T' : St} (h : S'.roots = S.roots) (h' : T'.roots = T.roots) (l : Bool) : ∀ (ks : List PK) (as : List AV), argsW l S' T' ks as = argsW l S T ks as
  | [], [] => rfl
  | k :: ks, a :: as => by simp only [argsW, argW_congr h h', argsW_congr h h' l ks as]
  | [], _ :: _ => rfl
  | _ :: _, [] => rfl
theorem frzArg_congr (h : S'.roots = S.roots) (k : PK) (a : AV) : frzArg S' k a = frzArg S k a := by
  unfold frzArg; simp only [root_congr h]
theorem frzArgs_congr (h : S'.roots = S.roots) : ∀ (ks : List PK) (as : List AV), frzArgs S' ks as = frzArgs S ks as
  | k :: ks, a :: as => by simp only [frzArgs, frzArg_congr h, frzArgs_congr h ks as]
  | [], _ => rfl
  | _ :: _, [] => rfl
theorem frzAt_congr (h : S'.roots = S.roots) (s j : Nat) : (frzAt S' s j).roots = (frzAt S s j).roots := by
  unfold frzAt
  rw [cell_congr h]
  split
  · exact setCell_congr h _ _ _
  · exact h
theorem frzAll_congr : ∀ (l : List (Nat × Nat)) {S S' : St}, S'.roots = S.roots → (frzAll S' l).roots = (frzAll S l).roots
  | [], _, _, h => h
  | p :: l, _, _, h => frzAll_congr l (frzAt_congr h p.1 p.2)
theorem forgetAll_congr : ∀ (l : List (Nat × Nat)) {S S' : St}, S'.roots = S.roots → (forgetAll S' l).roots = (forgetAll S l).roots
  | [], _, _, h => h
  | p :: l, _, _, h => forgetAll_congr l (setCell_congr h p.1 p.2 _)
theorem putBacks_congr {os : List Out} : ∀ (l : List (Nat × List Cell)) {S S' : St}, S'.roots = S.roots → (putBacks S' os l).map St.roots = (putBacks S os l).map St.roots
  | [], _, _, h => by simp [putBacks, h]
  | (i, cs) :: l, S, S', h => by
    simp only [putBacks]
    split
    · exact putBacks_congr l (by simp only [St.setRoot, h])
    · rfl
theorem storeK_congr (h : S'.roots = S.roots) {a : AV} {l : List AV} {κ : List (Nat × Root) → List Nat → Option R} : storeK S' a l κ = storeK S a l κ := by
  unfold storeK; simp only [root_congr h, cell_congr h, setCell_congr h, fun s' j' c s j c' => setCell_congr (s := s) (j := j) (c := c') (setCell_congr (s := s') (j := j') (c := c) h), h]
theorem callW_congr {sig : FuncId → Sig} {pks : FuncId → List PK} {lv : Lv sig} {d : Nat} {f : FuncId} {as : List AV} {κ : AV → Option Root → List (Nat × Root) → List Nat → Option R} (h : S'.roots = S.roots) :
    callW sig pks lv d S' f as κ = callW sig pks lv d S f as κ := by
  unfold callW
  simp only
  have e1 := frzArgs_congr h (pks f) as
  have e2 := frzAll_congr (frzArgs S (pks f) as) h
  rw [e1]
  generalize frzAll S' (frzArgs S (pks f) as) = S1' at e2 ⊢
  generalize frzAll S (frzArgs S (pks f) as) = S1 at e2 ⊢
  have e3 : (⟨S1'.tmps, dropAll (boxesOf (pks f) as) S1'.roots⟩ : St).roots = (⟨S1.tmps, dropAll (boxesOf (pks f) as) S1.roots⟩ : St).roots := by simp only [e2]
  generalize (⟨S1'.tmps, dropAll (boxesOf (pks f) as) S1'.roots⟩ : St) = S2' at e3 ⊢
  generalize (⟨S1.tmps, dropAll (boxesOf (pks f) as) S1.roots⟩ : St) = S2 at e3 ⊢
  rw [argsW_congr e2 e3]
  split
  · rename_i args os hA
    congr 1
    congr 1
    funext r
    have e4 := putBacks_congr (os := os) (Backs.cells (sig f).back (Sig.back1 (sig f) r)) (forgetAll_congr (srcsOf os) e3)
    generalize putBacks (forgetAll S2' (srcsOf os)) os _ = q' at e4 ⊢
    generalize putBacks (forgetAll S2 (srcsOf os)) os _ = q at e4 ⊢
    cases q' with
    | none =>
      cases q with
      | none => rfl
      | some X => simp at e4
    | some X' =>
      cases q with
      | none => simp at e4
      | some X =>
        simp only [Option.map_some, Option.some.injEq] at e4
        simp only [e4]
  · rfl
theorem copyK_congr (h : S'.roots = S.roots) {s j lo n : Nat} {t : El} {x : AV} {κ : AV → List (Nat × Root) → Option R} : copyK S' s j lo n t x κ = copyK S s j lo n t x κ := by
  unfold copyK; simp only [cell_congr h, elemsOf_congr h, setCell_congr h]
theorem bwK_congr (h : S'.roots = S.roots) {s : Nat} {x : List UInt8} {κ : List (Nat × Root) → Option R} : bwK S' s x κ = bwK S s x κ := by
  unfold bwK; simp only [root_congr h, h]
theorem brK_congr (h : S'.roots = S.roots) {s e : Nat} {κ : AV → List (Nat × Root) → Option R} : brK S' s e κ = brK S s e κ := by
  unfold brK; simp only [root_congr h, h]
theorem stepW_congr {E : Env} {lv : Lv E.sig} {o : Oper} {κ : AV → Option Root → List (Nat × Root) → List Nat → Option R} (hr : S'.roots = S.roots) (h : ∀ x ∈ o.op.operands, S'.ev x = S.ev x) : stepW E lv o S' κ = stepW E lv o S κ := by
  unfold stepW
  cases ho : o.op <;> rw [ho] at h <;> simp only [Op.operands] at h <;> try rfl
  case store T x y => simp only [h x (by simp), h y (by simp), storeK_congr hr]
  case call c =>
    have hargs : ∀ x ∈ c.args.toList, S'.ev x = S.ev x := fun x hx => h x (by simp [Call.operands] at hx ⊢; exact .inr hx)
    simp only [calleeOf_congr h, callW_congr hr, bwK_congr hr, brK_congr hr]
    split
    · split
      · rename_i b x T T' hx hT
        simp only [hargs b (by rw [hx]; simp), hargs x (by rw [hx]; simp), elemsOf_congr hr, cell_congr hr, setCell_congr hr, hr]
      · rfl
    · split
      · rename_i b x T T' hx hT
        simp only [hargs b (by rw [hx]; simp), hargs x (by rw [hx]; simp), cell_congr hr, copyK_congr hr]
      · rfl
    · rfl
    · rfl
theorem step1_congr {E : Env} {lv : Lv E.sig} {o : Oper} {κ : AV → Option Root → List (Nat × Root) → List Nat → Option R} (hr : S'.roots = S.roots) (h : ∀ x ∈ o.op.operands, S'.ev x = S.ev x) : step1 E lv o S' κ = step1 E lv o S κ := by
  unfold step1
  cases quietOp E.pks o with
  | true => simp only [cond]; rw [hr]; exact stepQ_congr hr h
  | false => exact stepW_congr hr h

/-! ### Operations that do not look at what is owned -/
theorem blind_congr {E : Env} {lv : Lv E.sig} {o : Oper} {κ : AV → Option Root → Option R} (hb : blindOp o = true) (h : ∀ x ∈ o.op.operands, S'.ev x = S.ev x) : stepQ E lv o S' κ = stepQ E lv o S κ := by
  have e : ∀ S : St, stepQ E lv o S κ = stepV E.ty o S κ := by
    intro S
    unfold stepQ
    unfold blindOp at hb
    split
    · rename_i c ho; rw [ho] at hb; cases hb
    · rfl
  rw [e, e]
  unfold stepV
  unfold blindOp at hb
  cases ho : o.op <;> rw [ho] at h hb <;> simp only [Op.operands] at h <;> try (cases hb; done)
  case move x => simp only [h x (by simp)]
  case assign x => simp only [h x (by simp)]
  case pick c x y => simp only [h c (by simp), h x (by simp), h y (by simp)]
  case nilCheck x => simp only [h x (by simp)]
  case binOp op T x y c => simp only [h x (by simp), h y (by simp)]
  case unOp op T x => simp only [h x (by simp)]
  case extract x i => simp only [h x (by simp)]
  case fieldAddr T x f => simp only [h x (by simp)]
  case field T x f => simp only [h x (by simp)]
  case index T x i => simp only [h x (by simp), h i (by simp)]
  case build T ps => simp only [parts_congr (S := S) (S' := S') (ps := ps) fun x hx => h x (by simpa using hx)]
end
end Go.Proofs.YtjkokaockhecnaaGreatDoorA
