/- Regions that draw their order: all orders. -/
import Derived.Test.YtppmpfddcohkjaaDraw2
namespace Go.Proofs.YtppmpfddcohkjaaA
open Go

section
variable {elid : El → Nat} {n : Nat} {w w' w'' : World} {g g' g'' : Gh} {S S' : St} {a : Act} {P : Program}
variable {R : Type} {E : Env} {lv : Lv E.sig} {fz : Nat → Bool} {arr : Array Oper} {S0 : St} {κ : St → Option R} {r : R} {st : Nat → St} {nws : Nat → List (Nat × Root)} {m : Nat} {lt : Nat → St}

theorem binds_any (e : Edge) : Region.binds .any e = bindsAny e := by
  unfold Region.binds bindsAny
  cases e.ground <;> rfl

theorem countP_lt {p q : Nat → Bool} {i : Nat} : ∀ {l : List Nat}, i ∈ l → p i = true → q i = false → (∀ x, q x = true → p x = true) → l.countP q < l.countP p
  | [], h, _, _, _ => by simp at h
  | x :: l, h, h1, h2, hpq => by
    have hle : ∀ l : List Nat, l.countP q ≤ l.countP p := fun l => List.countP_mono_left fun x _ => hpq x
    simp only [List.countP_cons]
    rcases List.mem_cons.mp h with rfl | h
    · rw [h1, h2]
      have := hle l
      simp only [if_true, Bool.false_eq_true, if_false]
      omega
    · have := countP_lt (l := l) h h1 h2 hpq
      cases hq : q x with
      | false => simp only [Bool.false_eq_true, if_false]; omega
      | true => rw [hpq x hq]; simp only [if_true]; omega

def Dn (listed : Array Bool) (k : Nat) : Prop := listed.getD k false = true
theorem Dn.set {listed : Array Bool} {i : Nat} (hi : i < listed.size) : Dn (listed.setIfInBounds i true) = With (Dn listed) i := by
  funext k
  apply propext
  unfold Dn With
  by_cases e : k = i
  · subst e; simp [hi]
  · rw [getD_set_ne false (Ne.symm e)]
    simp [e]

theorem DR.nonquiet (h : DR P elid E lv fz arr n S0 κ r st nws m lt) {j : Nat} (hm : m < arr.toList.length) (hj : m ≤ j) : quietAll E.pks (arr.toList.take (j + 1)) = false := by
  obtain ⟨o, ho, hq⟩ := h.nq hm
  cases hx : quietAll E.pks (arr.toList.take (j + 1)) with
  | false => rfl
  | true => rw [quietAll_take hx hj ho] at hq; cases hq
theorem freeOp_spec {pks : FuncId → List PK} {ops : List Oper} {i j : Nat} {x : Oper} (h : freeOp pks ops i j x = true) : quietAll pks (ops.take (j + 1)) = true ∨ (calmOp x = true ∧ quietAll pks (ops.take (i + 1)) = true) := by
  simp only [freeOp, Bool.or_eq_true, Bool.and_eq_true] at h
  exact h

/-- A late operation that is ready: what is ahead of it is done, but for what is blind. -/
theorem DR.ready_late (h : DR P elid E lv fz arr n S0 κ r st nws m lt) {D : Nat → Prop} {i : Nat} {o : Oper} (ho : arr.toList[i]? = some o) (hmi : m ≤ i) (hr : ∀ k, Bit arr.toList k i → D k) :
    (∀ k, m ≤ k → k < i → D k) ∧ ∀ k x, k < m → arr.toList[k]? = some x → calmOp x = false → D k := by
  have hil := (List.getElem?_eq_some_iff.mp ho).1
  have hml : m < arr.toList.length := by omega
  refine ⟨fun k hmk hki => ?_, fun k x hkm hx hb => ?_⟩
  · obtain ⟨x, hx⟩ := h.op (k := k) (by omega)
    rcases h.pair hx ho hki with hb | ⟨_, hf⟩
    · exact hr k hb
    · rcases freeOp_spec hf with hq | ⟨_, hq⟩
      · rw [h.nonquiet hml hmi] at hq; cases hq
      · rw [h.nonquiet hml hmk] at hq; cases hq
  · rcases h.pair hx ho (by omega) with hb' | ⟨_, hf⟩
    · exact hr k hb'
    · rcases freeOp_spec hf with hq | ⟨hq, _⟩
      · rw [h.nonquiet hml hmi] at hq; cases hq
      · rw [hq] at hb; cases hb

theorem DR.any (h : DR P elid E lv fz arr n S0 κ r st nws m lt) {Q : Exit → Act → World → Prop} : ∀ (fuel : Nat) (listed : Array Bool) (a : Act) (w : World) (g : Gh), listed.size = arr.toList.length → Closed arr.toList (Dn listed) →
    (P1 elid arr n st nws m (Dn listed) w g a ∨ ∃ j, P2 elid arr n m lt (Dn listed) j w g a) → (List.range arr.toList.length).countP (fun k => !listed.getD k false) ≤ fuel →
    (∀ S' w' g' a', κ S' = some r → Rel elid n w' g' S' a' → Inv w g w' g' → Q .normal a' w') → wpAny P .any arr Q fuel listed a w := by
  intro fuel
  -- all done
  have finish : ∀ (listed : Array Bool) (a : Act) (w : World) (g : Gh), (∀ k, k < arr.toList.length → Dn listed k) → (P1 elid arr n st nws m (Dn listed) w g a ∨ ∃ j, P2 elid arr n m lt (Dn listed) j w g a) →
      (∀ S' w' g' a', κ S' = some r → Rel elid n w' g' S' a' → Inv w g w' g' → Q .normal a' w') → Q .normal a w := by
    intro listed a w g hall hph hQ
    have hno : ∀ t, ¬ Undone arr m (Dn listed) t := fun t ⟨k, o, _, h1, _, h3⟩ => h3 (hall k (List.getElem?_eq_some_iff.mp h1).1)
    have fin : ∀ B : St, κ B = some r → Rel elid n w g (mask (Undone arr m (Dn listed)) B) a → Q .normal a w := by
      intro B hB hrel
      refine hQ B w g a hB (hrel.ext (fun t => ?_) (fun s => rfl)) (.refl _ _)
      classical
      rw [tmp_mask, if_neg (hno t)]
    rcases hph with h1 | ⟨j, h2⟩
    · have hmN : m = arr.toList.length := by
        rcases Nat.lt_or_ge m arr.toList.length with hlt | hge
        · have := h1.lo m (hall m hlt); omega
        · have := h.hm; omega
      exact fin (lt m) (by rw [hmN]; exact h.fin) (h.turn h1 fun k o hk ho _ => hall k (List.getElem?_eq_some_iff.mp ho).1)
    · have hjN : j = arr.toList.length := by
        rcases Nat.lt_or_ge j arr.toList.length with hlt | hge
        · have := (h2.late j (by have := h2.mj; omega)).1 (hall j hlt); omega
        · have := h2.jn; omega
      have := h2.rel
      exact fin (lt j) (by rw [hjN]; exact h.fin) this
  have rdy : ∀ (listed : Array Bool), listed.size = arr.toList.length → ∀ j, j ∈ Region.ready .any arr listed → ¬ Dn listed j ∧ ∃ o, arr.toList[j]? = some o ∧ ∀ e ∈ o.after.toList, bindsAny e = true → Dn listed e.on := by
    intro listed hsz j hj
    obtain ⟨h0, o, ho, hall⟩ := mem_ready.1 hj
    refine ⟨fun hd => ?_, o, by simpa using ho, fun e he hb => hall e (by simpa using he) (by rw [binds_any]; exact hb)⟩
    unfold Dn at hd
    rw [Array.getD_eq_getD_getElem?] at h0 hd
    cases hx : listed[j]? with
    | none => rw [hx] at h0; simp at h0
    | some b => rw [hx] at h0 hd; simp at h0 hd; rw [h0] at hd; cases hd
  have alld : ∀ (listed : Array Bool), listed.size = arr.toList.length → Region.ready .any arr listed = [] → ∀ k, k < arr.toList.length → Dn listed k := by
    intro listed hsz hre k
    induction k using Nat.strongRecOn with
    | _ k ih =>
      intro hk
      apply Classical.byContradiction
      intro hnd
      obtain ⟨o, ho⟩ := h.op hk
      have : k ∈ Region.ready .any arr listed := by
        rw [mem_ready]
        refine ⟨?_, o, by simpa using ho, fun e he hb => ?_⟩
        · unfold Dn at hnd
          rw [Array.getD_eq_getD_getElem?] at hnd ⊢
          have hk' : k < listed.size := by omega
          rw [Array.getElem?_eq_getElem hk'] at hnd ⊢
          simpa using hnd
        · have hlt := edgesOk_spec h.he k o ho e (by simpa using he) (by rw [← binds_any]; exact hb)
          rw [Nat.zero_add] at hlt
          exact ih e.on hlt (by omega)
      rw [hre] at this
      simp at this
  induction fuel with
  | zero =>
    intro listed a w g hsz hc hph hcnt hQ
    have hall : ∀ k, k < arr.toList.length → Dn listed k := by
      intro k hk
      have h0 : (List.range arr.toList.length).countP (fun k => !listed.getD k false) = 0 := by omega
      have := List.countP_eq_zero.1 h0 k (List.mem_range.2 hk)
      unfold Dn
      simpa using this
    refine ⟨?_, finish listed a w g hall hph hQ⟩
    apply List.eq_nil_iff_forall_not_mem.2
    intro j hj
    obtain ⟨h1, o, ho, _⟩ := rdy listed hsz j hj
    exact h1 (hall j (List.getElem?_eq_some_iff.mp ho).1)
  | succ fuel ih =>
    intro listed a w g hsz hc hph hcnt hQ
    refine ⟨fun hre => finish listed a w g (alld listed hsz hre) hph hQ, fun i hi => ?_⟩
    obtain ⟨hnd, o, ho, hedge⟩ := rdy listed hsz i hi
    have hil := (List.getElem?_eq_some_iff.mp ho).1
    have hr := hc.ready ho hedge
    have hset := Dn.set (listed := listed) (i := i) (by omega)
    have hc' : Closed arr.toList (With (Dn listed) i) := by
      rintro j (rfl | hj) k hb
      · exact .inr (hr k hb)
      · exact .inr (hc j hj k hb)
    have hcnt' : (List.range arr.toList.length).countP (fun k => !(listed.setIfInBounds i true).getD k false) ≤ fuel := by
      have : (List.range arr.toList.length).countP (fun k => !(listed.setIfInBounds i true).getD k false) < (List.range arr.toList.length).countP (fun k => !listed.getD k false) := by
        refine countP_lt (i := i) (List.mem_range.2 hil) ?_ ?_ fun x hx => ?_
        · unfold Dn at hnd; simpa using hnd
        · have : Dn (listed.setIfInBounds i true) i := by rw [hset]; exact .inl rfl
          unfold Dn at this
          simpa using this
        · have hx' : ¬ Dn (listed.setIfInBounds i true) x := by unfold Dn; simpa using hx
          rw [hset] at hx'
          have : ¬ Dn listed x := fun h => hx' (.inr h)
          unfold Dn at this
          simpa using this
      omega
    have hsz' : (listed.setIfInBounds i true).size = arr.toList.length := by simpa using hsz
    -- on
    have next : ∀ w' g' a', Inv w g w' g' → (P1 elid arr n st nws m (With (Dn listed) i) w' g' a' ∨ ∃ j, P2 elid arr n m lt (With (Dn listed) i) j w' g' a') → wpAny P .any arr Q fuel (listed.setIfInBounds i true) a' w' := by
      intro w' g' a' hinv hph'
      exact ih _ a' w' g' hsz' (by rw [hset]; exact hc') (by rw [hset]; exact hph') hcnt' fun S' w'' g'' a'' q1 q2 q3 => hQ S' w'' g'' a'' q1 q2 (hinv.trans q3)
    rcases hph with h1 | ⟨j, h2⟩
    · by_cases him : i < m
      · exact h.step1 hc ho him hnd hr h1 fun w' g' a' hinv hp => next w' g' a' hinv (.inl hp)
      · obtain ⟨r1, r2⟩ := h.ready_late ho (by omega) hr
        have him' : i = m := by
          rcases Nat.lt_or_ge m i with hlt | hge
          · have := h1.lo m (r1 m (Nat.le_refl _) hlt); omega
          · omega
        subst him'
        refine h.step3 ho (Nat.le_refl _) hr (h.turn h1 r2) (fun k hk => ?_) r2 fun w' g' a' hinv hp => next w' g' a' hinv (.inr ⟨_, hp⟩)
        constructor
        · intro hd; exact h1.lo k hd
        · intro hlt; omega
    · have hmj := h2.mj
      have hjn := h2.jn
      by_cases him : i < m
      · have hml : m < arr.toList.length := by omega
        obtain ⟨x, hx⟩ := h.op hml
        have hb0 : calmOp o = true := by
          rcases h.pair ho hx him with hb | ⟨_, hf⟩
          · exact absurd (hc m ((h2.late m (Nat.le_refl _)).2 hmj) i hb) hnd
          · rcases freeOp_spec hf with hq | ⟨hq, _⟩
            · rw [h.nonquiet hml (Nat.le_refl _)] at hq; cases hq
            · exact hq
        have hb : ∀ av rt, stepQ E lv o (st i) q0 = some (av, rt) → ∀ S', (∀ x ∈ o.op.operands, S'.ev x = (st i).ev x) → S'.roots = (lt j).roots → stepQ E lv o S' q0 = some (av, none) := by
          intro av rt hst S' he hroots
          unfold calmOp at hb0
          rw [Bool.or_eq_true] at hb0
          rcases hb0 with hb | hb
          · have := blind_none hb hst
            subst this
            rw [blind_congr hb he]; exact hst
          · rcases h.calm i o him ho hb with hbit | hst'
            · exact absurd (hc m ((h2.late m (Nat.le_refl _)).2 hmj) i (hbit m (Nat.le_refl _) hml)) hnd
            · exact hst' av rt hst j (by omega) hjn S' he hroots
        exact h.step2 hc ho him hnd hb hr h2 fun w' g' a' hinv hp => next w' g' a' hinv (.inr ⟨_, hp⟩)
      · obtain ⟨r1, r2⟩ := h.ready_late ho (by omega) hr
        have hji : j ≤ i := by
          rcases Nat.lt_or_ge i j with hlt | hge
          · exact absurd ((h2.late i (by omega)).2 hlt) hnd
          · exact hge
        have hij : i = j := by
          rcases Nat.lt_or_ge j i with hlt | hge
          · have := (h2.late j (by omega)).1 (r1 j (by omega) hlt); omega
          · omega
        subst hij
        exact h.step3 ho (by omega) hr h2.rel h2.late r2 fun w' g' a' hinv hp => next w' g' a' hinv (.inr ⟨_, hp⟩)

theorem drawn_chg (w : World) (k : Nat) : Chg w { w with drawn := k } fun _ _ => False := ⟨rfl, rfl, rfl, Nat.le_refl _, fun _ _ _ => rfl, fun _ _ _ _ => rfl, fun _ _ _ _ => rfl⟩
theorem Rel.drawn (hS : Rel elid n w g S a) (k : Nat) : Rel elid n { w with drawn := k } g S a :=
  ⟨hS.size, hS.df, fun t => (hS.tm t).same (drawn_chg w k) fun _ _ _ h => h.elim, fun s r hr => (hS.rt s r hr).same (drawn_chg w k) fun _ _ _ h => h.elim⟩
theorem Inv.drawn (w : World) (g : Gh) (k : Nat) : Inv w g { w with drawn := k } g := ⟨(drawn_chg w k).mono fun _ _ _ h => h.elim, fun _ _ _ h => h, fun _ _ _ h => h, fun _ _ _ h => h, fun _ _ => rfl⟩

end

theorem addRoots_other : ∀ (l : List (Nat × Root)) (S : St) {s : Nat}, (∀ p ∈ l, p.1 ≠ s) → (addRoots S l).root s = S.root s
  | [], _, _, _ => rfl
  | (d, r) :: l, S, s, h => by
    simp only [addRoots]
    rw [addRoots_other l _ fun p hp => h p (List.mem_cons_of_mem _ hp), root_setRoot, if_neg fun e => h (d, r) List.mem_cons_self e.symm]
/-- What an address says that may be looked at late. -/
def lateAt (ps : List Nat) : AV → Prop
  | .ref s _ => s ∈ ps
  | .vp _ | .vi _ | .tup _ => True
  | _ => False
/-- An operation that may come late. -/
def lateOpOk (ps : List Nat) (S : St) (o : Oper) : Prop :=
  ∃ x, ((∃ T, o.op = .load T x) ∧ lateAt ps (S.ev x)) ∨ ((∃ c, o.op = .call c ∧ c.callee = .builtin .len ∧ c.args.toList = [x]) ∧ ∀ s j, S.ev x ≠ .al s j)
theorem lateOpOk.operand {ps : List Nat} {S S' : St} {o : Oper} (h : lateOpOk ps S o) (he : ∀ x ∈ o.op.operands, S'.ev x = S.ev x) : lateOpOk ps S' o := by
  obtain ⟨x, ⟨⟨T, h1⟩, h2⟩ | ⟨⟨c, h1, h2, h3⟩, h4⟩⟩ := h
  · exact ⟨x, .inl ⟨⟨T, h1⟩, by rw [he x (by rw [h1]; simp [Op.operands])]; exact h2⟩⟩
  · have hx : x ∈ o.op.operands := by
      rw [h1]
      have : x ∈ c.args.toList := by rw [h3]; simp
      simp [Op.operands, Call.operands, h2]
      simpa using this
    exact ⟨x, .inr ⟨⟨c, h1, h2, h3⟩, by rw [he x hx]; exact h4⟩⟩
theorem calmSlots_spec {bs : List Nat} {S : St} {m : Nat} : ∀ {l : List Oper} {i : Nat} {ps : List Nat}, calmSlots bs S m i l = some ps → ∀ k o, l[k]? = some o → loadOp o = true →
    (∀ j, m ≤ j → j < bs.length → (bs.getD j 0).testBit (i + k) = true) ∨ lateOpOk ps S o
  | [], _, _, _, k, o, hk, _ => by simp at hk
  | y :: l, i, ps, h, k, o, hk, hl => by
    simp only [calmSlots] at h
    cases hb : !loadOp y || lateBits bs i m with
    | true =>
      rw [hb] at h
      simp only [cond] at h
      cases k with
      | zero =>
        simp only [List.getElem?_cons_zero, Option.some.injEq] at hk
        subst hk
        rw [hl] at hb
        simp only [Bool.not_true, Bool.false_or] at hb
        refine .inl fun j hj hjl => ?_
        unfold lateBits at hb
        have := List.all_eq_true.1 hb j (by
          rw [List.mem_drop_iff_getElem]
          exact ⟨j - m, by simp; omega, by simp; omega⟩)
        rw [Nat.add_zero]; exact this
      | succ k =>
        rcases calmSlots_spec h k o (by simpa using hk) hl with h1 | h1
        · exact .inl fun j a b => by rw [show i + (k + 1) = i + 1 + k by omega]; exact h1 j a b
        · exact .inr h1
    | false =>
      rw [hb] at h
      simp only [cond] at h
      have rest : ∀ ps', calmSlots bs S m (i + 1) l = some ps' → (∀ s, s ∈ ps' → s ∈ ps) → lateOpOk ps S y → (∀ j, m ≤ j → j < bs.length → (bs.getD j 0).testBit (i + k) = true) ∨ lateOpOk ps S o := by
        intro ps' hc hsub hat
        cases k with
        | zero =>
          simp only [List.getElem?_cons_zero, Option.some.injEq] at hk
          subst hk
          exact .inr hat
        | succ k =>
          rcases calmSlots_spec hc k o (by simpa using hk) hl with h1 | ⟨x', ⟨h1, h2⟩ | h1⟩
          · exact .inl fun j a b => by rw [show i + (k + 1) = i + 1 + k by omega]; exact h1 j a b
          · refine .inr ⟨x', .inl ⟨h1, ?_⟩⟩
            generalize S.ev x' = av at h2
            cases av <;> first | trivial | exact h2.elim | exact hsub _ h2
          · exact .inr ⟨x', .inr h1⟩
      cases ho : y.op <;> rw [ho] at h <;> try (cases h; done)
      case load T x =>
        simp only at h
        have rest2 : ∀ ps', calmSlots bs S m (i + 1) l = some ps' → (∀ s, s ∈ ps' → s ∈ ps) → lateAt ps (S.ev x) → _ := fun ps' h1 h2 h3 => rest ps' h1 h2 ⟨x, .inl ⟨⟨T, ho⟩, h3⟩⟩
        generalize hx : S.ev x = av at h rest2
        cases av <;> simp only at h <;> try (cases h; done)
        case ref s off =>
          cases hc : calmSlots bs S m (i + 1) l with
          | none => rw [hc] at h; cases h
          | some ps' =>
            rw [hc] at h
            simp only [Option.map_some, Option.some.injEq] at h
            subst h
            exact rest2 ps' hc (fun s' hs => List.mem_cons_of_mem _ hs) List.mem_cons_self
        all_goals exact rest2 ps h (fun _ h => h) trivial
      case call c =>
        simp only at h
        have hlen : c.callee = .builtin .len := by
          cases hl' : loadOp y with
          | false => rw [hl'] at hb; cases hb
          | true =>
            unfold loadOp at hl'
            rw [ho] at hl'
            simp only at hl'
            split at hl'
            · assumption
            · cases hl'
        split at h
        · rename_i x hargs
          split at h
          · cases h
          · rename_i hal
            exact rest ps h (fun _ h => h) ⟨x, .inr ⟨⟨c, ho, hlen, hargs⟩, hal⟩⟩
        · cases h
theorem len_congr {E : Env} {lv : Lv E.sig} {o : Oper} {S S' : St} {c : Call} {x : Operand} (ho : o.op = .call c) (hc : c.callee = .builtin .len) (hx : c.args.toList = [x]) (he : S'.ev x = S.ev x) (hal : ∀ s j, S.ev x ≠ .al s j) :
    stepQ E lv o S' q0 = stepQ E lv o S q0 := by
  have e : ∀ S : St, stepQ E lv o S q0 = stepV E.ty o S q0 := fun S => by unfold stepQ; rw [ho]; simp only [hc]
  rw [e, e]
  unfold stepV
  rw [ho]
  simp only [hc, hx]
  split
  · rename_i x' T h1 h2
    cases h1
    rw [he]
    unfold lenK
    generalize hav : S.ev x = a at *
    cases a <;> first | rfl | exact absurd rfl (hal _ _)
  · rfl
theorem load_congr {E : Env} {lv : Lv E.sig} {o : Oper} {S S' : St} {T : TypeId} {x : Operand} {av : AV} (ho : o.op = .load T x) (he : S'.ev x = S.ev x) (hr : ∀ s off, S.ev x = .ref s off → S.root s ≠ none → S'.root s = S.root s)
    (hst : stepQ E lv o S q0 = some (av, none)) (hcl : ∀ s j sz i off, S.ev x ≠ .eref s j sz i off) (hcl2 : ∀ s i, S.ev x ≠ .bref s i) : stepQ E lv o S' q0 = stepQ E lv o S q0 := by
  have e : ∀ S : St, stepQ E lv o S q0 = stepV E.ty o S q0 := fun S => by unfold stepQ; rw [ho]
  rw [e] at hst
  rw [e, e]
  unfold stepV at hst ⊢
  rw [ho] at hst ⊢
  simp only at hst ⊢
  rw [he]
  cases hT : E.ty T with
  | none => rfl
  | some i =>
    rw [hT] at hst
    simp only at hst ⊢
    unfold loadK at hst ⊢
    generalize hx : S.ev x = a at *
    cases a with
    | ref s off =>
      simp only at hst ⊢
      rw [hr s off rfl]
      intro hn
      rw [hn] at hst
      cases hst
    | eref s j sz i off => exact absurd rfl (hcl s j sz i off)
    | bref s i => exact absurd rfl (hcl2 s i)
    | _ => rfl
theorem draw_sound {P : Program} {elid : El → Nat} {E : Env} (hE : ∀ T i, E.ty T = some i → TyOK P elid T i) (hmix : P.follows .mixedOrders = true) (lv : Lv E.sig) (hlv : LvOK P elid E.sig lv) (n : Nat) (hn : n ≤ 1000) : DrawOK P elid n E lv := by
  intro R fz id ops S a w g κ r Q hdst hok hfresh hrun hS hQ
  simp only [drawOk, Bool.and_eq_true] at hok
  obtain ⟨⟨⟨h1, h2⟩, h3⟩, h4⟩ := hok
  obtain ⟨st, nws, m, e1, e2, e3, e4, e5, e6⟩ := runDraw_trace (lv := lv) ops.toList 0 S [] rfl (Nat.zero_le _) (by rw [List.drop_zero]; exact hrun)
  have sroots : ∀ k, k ≤ m → (st k).roots = S.roots := by
    intro k
    induction k with
    | zero => intro _; rw [e3]
    | succ k ih =>
      intro hk
      rw [(e5 k _ (Nat.zero_le _) (by omega) (List.getElem?_eq_getElem (show k < ops.toList.length by omega))).2.roots]
      exact ih (by omega)
  obtain ⟨lt, l1, l2, l3, l4, l5⟩ : ∃ lt : Nat → St, lt m = addRoots (st m) (nws m) ∧ (∀ k o, m ≤ k → ops.toList[k]? = some o → LStep E lv fz ops.toList o (lt k) (lt (k + 1))) ∧
      (m < ops.toList.length → ∃ o, ops.toList[m]? = some o ∧ quietOp E.pks o = false) ∧ κ (lt ops.toList.length) = some r ∧
      (m < ops.toList.length → ∃ ps, calmSlots (befores ops.toList []) (st m) m 0 (ops.toList.take m) = some ps ∧ ∀ k o, m ≤ k → ops.toList[k]? = some o → ∀ s ∈ ps, (lt (k + 1)).root s = (lt k).root s) := by
    rcases e6 with ⟨hm, hκ⟩ | ⟨o, ps, ho, hq, hps, hlate⟩
    · refine ⟨fun _ => addRoots (st m) (nws m), rfl, fun k o hk ho => ?_, fun h => by omega, hκ, fun h => by omega⟩
      have := (List.getElem?_eq_some_iff.mp ho).1
      omega
    · obtain ⟨lt, q1, q2, q3⟩ := runLate_trace (ops.toList.drop m) m _ rfl e2 hlate
      exact ⟨lt, q1, fun k o hk ho => (q2 k o hk ho).1, fun _ => ⟨o, ho, hq⟩, q3, fun _ => ⟨ps, hps, fun k o hk ho => (q2 k o hk ho).2⟩⟩
  have hnwd : ∀ i, i ≤ m → ∀ p ∈ nws i, ∃ o ∈ ops.toList, o.dst = some p.1 := by
    intro i
    induction i with
    | zero => intro _ p hp; rw [e4] at hp; simp at hp
    | succ i ih =>
      intro hi p hp
      have hoi := List.getElem?_eq_getElem (show i < ops.toList.length by omega)
      rcases (e5 i _ (Nat.zero_le _) (by omega) hoi).2.done with ⟨_, av, rt, _, _, _, (⟨_, e⟩ | ⟨q, d, _, hd, e, _⟩)⟩ | ⟨_, _, e⟩
      · rw [e] at hp; exact ih (by omega) p hp
      · rw [e] at hp
        rcases List.mem_cons.mp hp with rfl | hp
        · exact ⟨_, List.getElem_mem _, hd⟩
        · exact ih (by omega) p hp
      · rw [e] at hp; exact ih (by omega) p hp
  have calm : ∀ k o, k < m → ops.toList[k]? = some o → loadOp o = true → (∀ j, m ≤ j → j < ops.toList.length → Bit ops.toList k j) ∨
      ∀ av rt, stepQ E lv o (st k) q0 = some (av, rt) → ∀ j, m ≤ j → j ≤ ops.toList.length → ∀ S', (∀ x ∈ o.op.operands, S'.ev x = (st k).ev x) → S'.roots = (lt j).roots → stepQ E lv o S' q0 = some (av, none) := by
    intro k o hkm ho hl
    by_cases hml : m < ops.toList.length
    · obtain ⟨ps, hps, hkeep⟩ := l5 hml
      rcases calmSlots_spec hps k o (by rw [List.getElem?_take, if_pos hkm]; exact ho) hl with hbits | hsl
      · left
        intro j hj hjl
        rw [Nat.zero_add] at hbits
        exact hbits j hj (by rw [befores_length]; simpa using hjl)
      · right
        intro av rt hst j hj hjl S' he hroots
        have hrt := load_none hl hst
        subst hrt
        rw [← hst]
        have hev : ∀ x ∈ o.op.operands, (st k).ev x = (st m).ev x := by
          intro x hxo
          cases x with
          | tmp t =>
            have hlk : t ∈ looksOf ops.toList o := looks_operand hxo
            -- no operation from k on writes it
            have keep : ∀ i, k ≤ i → i ≤ m → (st i).tmp t = (st k).tmp t := by
              intro i
              induction i with
              | zero => intro h1 _; have : k = 0 := by omega
                        rw [this]
              | succ i ih =>
                intro h1 h2
                by_cases hki : k = i + 1
                · rw [hki]
                · have hoi := List.getElem?_eq_getElem (show i < ops.toList.length by omega)
                  rw [(e5 i _ (Nat.zero_le _) (by omega) hoi).2.tm t (fun e => ?_)]
                  · exact ih (by omega) (by omega)
                  · have hq : ∀ q, q < m → (quietPre E.pks ops.toList)[q]? = ops.toList[q]? := fun q hq => quietPre_get fun a b ha hb => (e5 a b (Nat.zero_le _) (by omega) hb).1
                    exact warOk_spec h3 k i o _ t (by omega) (by rw [hq k (by omega)]; exact ho) (by rw [hq i (by omega)]; exact hoi) e hlk
            exact (keep m (by omega) (Nat.le_refl _)).symm
          | _ => rfl
        obtain ⟨x, hcase⟩ := hsl.operand hev
        have hroot : ∀ s, s ∈ ps → (st k).root s ≠ none → S'.root s = (st k).root s := by
          intro s hs hne
          have e1 : S'.root s = (lt j).root s := by show look s S'.roots = look s (lt j).roots; rw [hroots]
          have e2' : ∀ q, m ≤ q → q ≤ ops.toList.length → (lt q).root s = (lt m).root s := by
            intro q
            induction q with
            | zero => intro h1 _; have : m = 0 := by omega
                      rw [this]
            | succ q ih =>
              intro h1 h2
              by_cases hmq : m = q + 1
              · rw [hmq]
              · rw [hkeep q _ (by omega) (List.getElem?_eq_getElem (show q < ops.toList.length by omega)) s hs]
                exact ih (by omega) (by omega)
          have e3' : (st k).root s = S.root s := by show look s (st k).roots = look s S.roots; rw [sroots k (by omega)]
          have e4' : (lt m).root s = (st m).root s := by
            rw [l1]
            refine addRoots_other _ _ fun p hp e => ?_
            obtain ⟨y, hy, hyd⟩ := hnwd m (Nat.le_refl _) p hp
            rw [e3'] at hne
            cases hr : S.root s with
            | none => exact hne hr
            | some q => exact ((freshAll_spec hfresh y hy p.1 hyd).2 s q hr).1 e.symm
          have e5' : (st m).root s = S.root s := by show look s (st m).roots = look s S.roots; rw [sroots m (Nat.le_refl _)]
          rw [e1, e2' j hj hjl, e4', e5', e3']
        rcases hcase with ⟨⟨T, hox⟩, hax⟩ | ⟨⟨c, h1, h2, h3⟩, h4⟩
        · have hxo : x ∈ o.op.operands := by rw [hox]; simp [Op.operands]
          exact load_congr hox (he x hxo) (fun s off hso => hroot s (by rw [hso] at hax; exact hax)) hst (fun s j sz i off e => by rw [e] at hax; exact hax) (fun s i e => by rw [e] at hax; exact hax)
        · have hx : x ∈ o.op.operands := by
            rw [h1]
            have : x ∈ c.args.toList := by rw [h3]; simp
            simp [Op.operands, Call.operands, h2]
            simpa using this
          exact len_congr h1 h2 h3 (he x hx) h4
    · left
      intro j hj hjl
      omega
  have hDR : DR P elid E lv fz ops n S κ r st nws m lt :=
    ⟨hE, hlv, hn, hdst, h1, h2, h3, h4, hfresh, e3, e4, e2, fun k o hk ho => e5 k o (Nat.zero_le _) hk ho, l1, l2, l3, calm, l4⟩
  refine wp_region_any hmix ?_
  have hS1 := hS.drawn (w.drawn + 1)
  have hfalse : ∀ k, ¬ Dn (Array.replicate ops.size false) k := by
    intro k hk
    unfold Dn at hk
    rw [Array.getD_eq_getD_getElem?, Array.getElem?_replicate] at hk
    split at hk <;> simp at hk
  refine hDR.any ops.size _ a _ g (by simp) (fun j hj => absurd hj (hfalse j)) (.inl ⟨?_, fun i d q hd => absurd hd (hfalse i), fun k hk => absurd hk (hfalse k)⟩) ?_ fun S' w' g' a' q1 q2 q3 => hQ S' w' g' a' q1 q2 ((Inv.drawn w g _).trans q3)
  · -- nothing is done yet
    refine ⟨hS1.size, hS1.df, fun t => ?_, fun s r hr => ?_⟩
    · classical
      rw [tmp_mask]
      split
      · exact .und _
      · rename_i hu
        have hno : ∀ (k : Nat) (o : Oper), k < m → ops.toList[k]? = some o → o.dst ≠ some t := fun k o hk ho e => hu ⟨k, o, hk, ho, e, hfalse k⟩
        rw [hDR.st_keep m (Nat.zero_le _) (Nat.le_refl _) (fun k o _ hk ho => hno k o hk ho), e3]
        exact hS1.tm t
    · have hr' : (st m).root s = some r := hr
      rw [root_congr (hDR.st_roots m (Nat.le_refl _))] at hr'
      exact hS1.rt s r hr'
  · have : ∀ l : List Nat, l.countP (fun k => !(Array.replicate ops.size false).getD k false) ≤ l.length := fun l => List.countP_le_length
    have := this (List.range ops.toList.length)
    simpa using this

end Go.Proofs.YtppmpfddcohkjaaA
