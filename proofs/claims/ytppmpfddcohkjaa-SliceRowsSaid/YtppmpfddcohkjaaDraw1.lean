/- Regions that draw their order: what the machine's checks say; what it has done in the order of the text. -/
import Derived.Test.YtppmpfddcohkjaaCong
import Derived.Orders
namespace Go.Proofs.YtppmpfddcohkjaaA
open Go

section
variable {ops : List Oper}

/-! ### What comes before what -/
def bf (acc : List Nat) (o : Oper) : Nat := o.after.toList.foldl (fun s e => bif bindsAny e then s ||| 2 ^ e.on ||| acc.getD e.on 0 else s) 0
theorem befores_cons (o : Oper) (l : List Oper) (acc : List Nat) : befores (o :: l) acc = befores l (acc ++ [bf acc o]) := by rw [befores]; rfl
theorem befores_length : ∀ (l : List Oper) (acc : List Nat), (befores l acc).length = acc.length + l.length
  | [], acc => rfl
  | o :: l, acc => by rw [befores_cons, befores_length l]; simp; omega
theorem befores_prefix : ∀ (l : List Oper) (acc : List Nat) (k : Nat), k < acc.length → (befores l acc)[k]? = acc[k]?
  | [], acc, k, _ => rfl
  | o :: l, acc, k, h => by
    rw [befores_cons, befores_prefix l _ k (by simp; omega), List.getElem?_append_left h]
theorem befores_at : ∀ (l : List Oper) (acc : List Nat) (k : Nat) (o : Oper), l[k]? = some o →
    ∃ acc' : List Nat, (∀ m, m < acc.length + k → acc'[m]? = (befores l acc)[m]?) ∧ acc'.length = acc.length + k ∧ (befores l acc)[acc.length + k]? = some (bf acc' o)
  | [], _, _, _, h => by simp at h
  | o' :: l, acc, 0, o, h => by
    simp only [List.getElem?_cons_zero, Option.some.injEq] at h
    subst h
    refine ⟨acc, fun m hm => ?_, rfl, ?_⟩
    · rw [befores_cons, befores_prefix l _ m (by simp; omega), List.getElem?_append_left (by omega)]
    · rw [befores_cons, befores_prefix l _ _ (by simp)]; simp
  | o' :: l, acc, k + 1, o, h => by
    obtain ⟨acc', h1, h2, h3⟩ := befores_at l (acc ++ [bf acc o']) k o (by simpa using h)
    simp only [List.length_append, List.length_cons, List.length_nil] at h1 h2 h3
    refine ⟨acc', fun m hm => ?_, by omega, ?_⟩
    · rw [befores_cons]; exact h1 m (by omega)
    · rw [befores_cons, show acc.length + (k + 1) = acc.length + (0 + 1) + k by omega]; exact h3
theorem bf_bit {acc : List Nat} {o : Oper} {i : Nat} (h : (bf acc o).testBit i = true) : ∃ e ∈ o.after.toList, bindsAny e = true ∧ (e.on = i ∨ (acc.getD e.on 0).testBit i = true) := by
  unfold bf at h
  have key : ∀ (l : List Edge) (s : Nat), (l.foldl (fun s e => bif bindsAny e then s ||| 2 ^ e.on ||| acc.getD e.on 0 else s) s).testBit i = true →
      s.testBit i = true ∨ ∃ e ∈ l, bindsAny e = true ∧ (e.on = i ∨ (acc.getD e.on 0).testBit i = true) := by
    intro l
    induction l with
    | nil => intro s h; exact .inl h
    | cons e l ih =>
      intro s h
      simp only [List.foldl_cons] at h
      rcases ih _ h with h | ⟨e', h1, h2⟩
      · cases hb : bindsAny e with
        | false => rw [hb] at h; exact .inl (by simpa using h)
        | true =>
          rw [hb] at h
          simp only [cond, Nat.testBit_or, Bool.or_eq_true, Nat.testBit_two_pow, decide_eq_true_eq] at h
          rcases h with (h | h) | h
          · exact .inl h
          · exact .inr ⟨e, List.mem_cons_self, hb, .inl h⟩
          · exact .inr ⟨e, List.mem_cons_self, hb, .inr h⟩
      · exact .inr ⟨e', List.mem_cons_of_mem _ h1, h2⟩
  rcases key _ 0 h with h | h
  · simp at h
  · exact h

def Bit (ops : List Oper) (i j : Nat) : Prop := ((befores ops []).getD j 0).testBit i = true
theorem Bit.edge {i j : Nat} (h : Bit ops i j) : ∃ o, ops[j]? = some o ∧ ∃ e ∈ o.after.toList, bindsAny e = true ∧ (e.on = i ∨ Bit ops i e.on) := by
  unfold Bit at h
  cases ho : ops[j]? with
  | none =>
    have : (befores ops [])[j]? = none := by
      rw [List.getElem?_eq_none_iff] at ho ⊢
      rw [befores_length]; simpa using ho
    rw [List.getD_eq_getElem?_getD, this] at h
    simp at h
  | some o =>
    obtain ⟨acc, h1, h2, h3⟩ := befores_at ops [] j o ho
    simp only [List.length_nil, Nat.zero_add] at h1 h2 h3
    rw [List.getD_eq_getElem?_getD, h3] at h
    obtain ⟨e, e1, e2, e3⟩ := bf_bit h
    refine ⟨o, rfl, e, e1, e2, ?_⟩
    rcases e3 with e3 | e3
    · exact .inl e3
    · refine .inr ?_
      unfold Bit
      rw [List.getD_eq_getElem?_getD] at e3 ⊢
      by_cases hlt : e.on < j
      · rw [← h1 _ hlt]; exact e3
      · rw [List.getElem?_eq_none (by omega)] at e3; simp at e3
def Closed (ops : List Oper) (D : Nat → Prop) : Prop := ∀ j, D j → ∀ i, Bit ops i j → D i
theorem Closed.ready {D : Nat → Prop} (hc : Closed ops D) {j : Nat} {o : Oper} (ho : ops[j]? = some o) (hr : ∀ e ∈ o.after.toList, bindsAny e = true → D e.on) : ∀ i, Bit ops i j → D i := by
  intro i h
  obtain ⟨o', h1, e, h2, h3, h4⟩ := h.edge
  rw [ho] at h1; cases h1
  rcases h4 with h4 | h4
  · rw [← h4]; exact hr e h2 h3
  · exact hc _ (hr e h2 h3) i h4

/-! ### The checks -/
theorem memN_iff {k : Nat} {l : List Nat} : memN k l = true ↔ k ∈ l := by
  induction l with
  | nil => simp [memN]
  | cons m l ih =>
    simp only [memN, Bool.or_eq_true, ih, List.mem_cons]
    constructor
    · rintro (h | h)
      · exact .inl (Nat.eq_of_beq_eq_true h).symm
      · exact .inr h
    · rintro (rfl | h)
      · exact .inl (by simp)
      · exact .inr h
theorem edgesOk_spec : ∀ {l : List Oper} {i : Nat}, edgesOk i l = true → ∀ k o, l[k]? = some o → ∀ e ∈ o.after.toList, bindsAny e = true → e.on < i + k
  | [], _, _, k, o, h, _, _, _ => by simp at h
  | p :: l, i, h, k, o, ho, e, he, hb => by
    simp only [edgesOk, Bool.and_eq_true] at h
    cases k with
    | zero =>
      simp only [List.getElem?_cons_zero, Option.some.injEq] at ho
      subst ho
      have := List.all_eq_true.1 h.1 e he
      rw [hb] at this
      have h2 : Nat.blt e.on i = true := by simpa using this
      exact Nat.le_of_ble_eq_true h2
    | succ k =>
      have := edgesOk_spec h.2 k o (by simpa using ho) e he hb
      omega
theorem beq_false_ne {i j : Nat} (h : (!Nat.beq i j) = true) : i ≠ j := fun e => by subst e; simp at h
theorem dstsOk_spec : ∀ {l : List Oper}, dstsOk l = true → ∀ (i j : Nat) (x y : Oper) (d : Nat), l[i]? = some x → l[j]? = some y → x.dst = some d → y.dst = some d → i = j := by
  have lt : ∀ {l : List Oper}, dstsOk l = true → ∀ (i j : Nat) (x y : Oper) (d : Nat), i < j → l[i]? = some x → l[j]? = some y → x.dst = some d → y.dst = some d → False := by
    intro l
    induction l with
    | nil => intro _ i j x y d _ h; simp at h
    | cons p l ih =>
      intro h i j x y d hij hx hy hxd hyd
      simp only [dstsOk, Bool.and_eq_true] at h
      cases j with
      | zero => omega
      | succ j =>
        cases i with
        | zero =>
          simp only [List.getElem?_cons_zero, Option.some.injEq] at hx
          subst hx
          rw [hxd] at h
          have := List.all_eq_true.1 h.1 y (List.mem_of_getElem? (by simpa using hy))
          rw [hyd] at this
          exact beq_false_ne this rfl
        | succ i => exact ih h.2 i j x y d (by omega) (by simpa using hx) (by simpa using hy) hxd hyd
  intro l h i j x y d hx hy hxd hyd
  rcases Nat.lt_trichotomy i j with h1 | h1 | h1
  · exact (lt h i j x y d h1 hx hy hxd hyd).elim
  · exact h1
  · exact (lt h j i y x d h1 hy hx hyd hxd).elim
theorem warOk_spec : ∀ {l : List Oper}, warOk ops l = true → ∀ (i j : Nat) (x y : Oper) (d : Nat), i ≤ j → l[i]? = some x → l[j]? = some y → y.dst = some d → d ∉ looksOf ops x
  | [], _, _, _, _, _, _, _, h, _, _ => by simp at h
  | p :: l, h, i, j, x, y, d, hij, hx, hy, hyd => by
    simp only [warOk, Bool.and_eq_true] at h
    cases i with
    | zero =>
      simp only [List.getElem?_cons_zero, Option.some.injEq] at hx
      subst hx
      intro hm
      have h1 := List.all_eq_true.1 h.1 d hm
      have := List.all_eq_true.1 h1 y (List.mem_of_getElem? hy)
      rw [hyd] at this
      exact beq_false_ne this rfl
    | succ i =>
      cases j with
      | zero => omega
      | succ j => exact warOk_spec h.2 i j x y d (by omega) (by simpa using hx) (by simpa using hy) hyd
theorem pairsOk_spec {pks : FuncId → List PK} {bs : List Nat} : ∀ {l : List Oper} {j : Nat}, pairsOk pks ops bs j l = true → ∀ k i x y, l[k]? = some y → i < j + k → ops[i]? = some x →
    (bs.getD (j + k) 0).testBit i = true ∨ (apartOp ops x y = true ∧ freeOp pks ops i (j + k) x = true)
  | [], _, _, _, _, _, _, h, _, _ => by simp at h
  | p :: l, j, h, k, i, x, y, hy, hij, hx => by
    simp only [pairsOk, Bool.and_eq_true] at h
    cases k with
    | zero =>
      simp only [List.getElem?_cons_zero, Option.some.injEq] at hy
      subst hy
      have hm : (x, i) ∈ (ops.take j).zipIdx := List.mem_zipIdx_iff_getElem?.2 (by simp only [List.getElem?_take]; rw [if_pos (by omega)]; exact hx)
      have := List.all_eq_true.1 h.1 _ hm
      simpa using this
    | succ k =>
      have := pairsOk_spec h.2 k i x y (by simpa using hy) (by omega) hx
      rwa [show j + 1 + k = j + (k + 1) by omega] at this
theorem apartOp_spec {x y : Oper} (h : apartOp ops x y = true) : (∀ d, x.dst = some d → d ∉ looksOf ops y) ∧ (∀ d, y.dst = some d → d ∉ looksOf ops x) := by
  simp only [apartOp, Bool.and_eq_true] at h
  refine ⟨fun d hd hm => ?_, fun d hd hm => ?_⟩
  · have h1 := h.1
    rw [hd] at h1
    simp only [Bool.and_eq_true] at h1
    rw [memN_iff.2 hm] at h1
    simp at h1
  · have h1 := h.2
    rw [hd] at h1
    simp only at h1
    rw [memN_iff.2 hm] at h1
    simp at h1
theorem quietAll_mem {pks : FuncId → List PK} : ∀ {l : List Oper}, quietAll pks l = true → ∀ o ∈ l, quietOp pks o = true
  | [], _, o, h => by simp at h
  | p :: l, h, o, ho => by
    simp only [quietAll, Bool.and_eq_true] at h
    rcases List.mem_cons.mp ho with rfl | ho
    · exact h.1
    · exact quietAll_mem h.2 o ho
theorem quietAll_take {pks : FuncId → List PK} {j k : Nat} {o : Oper} (h : quietAll pks (ops.take (j + 1)) = true) (hk : k ≤ j) (ho : ops[k]? = some o) : quietOp pks o = true :=
  quietAll_mem h o (List.mem_of_getElem? (i := k) (by rw [List.getElem?_take, if_pos (by omega)]; exact ho))

theorem mem_slotsOf {b d : Nat} (h : d ∈ slotsOf ops b) : ∃ i o, ops[i]? = some o ∧ o.dst = some d ∧ b.testBit i = true := by
  unfold slotsOf at h
  obtain ⟨p, hp, hq⟩ := List.mem_filterMap.1 h
  have := List.mem_zipIdx_iff_getElem?.1 (show (p.1, p.2) ∈ ops.zipIdx from hp)
  cases hb : b.testBit p.2 with
  | false => rw [hb] at hq; cases hq
  | true => rw [hb] at hq; exact ⟨p.2, p.1, this, hq, hb⟩

theorem freshR_spec {d : Nat} : ∀ {l : List (Nat × Root)}, freshR d l = true → ∀ s r, look s l = some r → s ≠ d ∧ ∀ b, Cell.av b ∈ r.cs → b.names d = false
  | [], _, s, r, h => by simp [look] at h
  | (i, q) :: l, h, s, r, hl => by
    simp only [freshR, Bool.and_eq_true] at h
    simp only [look] at hl
    cases e : Nat.beq i s with
    | true =>
      rw [e] at hl
      simp only [cond, Option.some.injEq] at hl
      subst hl
      have := Nat.eq_of_beq_eq_true e
      subst this
      refine ⟨beq_false_ne h.1.1, fun b hb => ?_⟩
      have := List.all_eq_true.1 h.1.2 _ hb
      simpa using this
    | false => rw [e] at hl; exact freshR_spec h.2 s r hl
theorem freshR_mem {d : Nat} : ∀ {l : List (Nat × Root)}, freshR d l = true → ∀ s r, (s, r) ∈ l → s ≠ d ∧ ∀ b, Cell.av b ∈ r.cs → b.names d = false
  | [], _, s, r, h => by simp at h
  | (i, q) :: l, h, s, r, hl => by
    simp only [freshR, Bool.and_eq_true] at h
    rcases List.mem_cons.mp hl with e | hl
    · cases e
      refine ⟨beq_false_ne h.1.1, fun b hb => ?_⟩
      have := List.all_eq_true.1 h.1.2 _ hb
      simpa using this
    · exact freshR_mem h.2 s r hl
theorem tmps_all {S : St} {p : AV → Bool} (h : S.tmps.all (fun q => p q.2) = true) (hu : p .und = true) (t : Nat) : p (S.tmp t) = true := by
  unfold St.tmp
  cases hl : look t S.tmps with
  | none => exact hu
  | some b => exact List.all_eq_true.1 h _ (look_mem hl)
theorem freshAll_spec {S : St} : ∀ {l : List Oper}, freshAll S l = true → ∀ o ∈ l, ∀ d, o.dst = some d → (∀ t, (S.tmp t).names d = false) ∧ ∀ s r, S.root s = some r → s ≠ d ∧ ∀ b, Cell.av b ∈ r.cs → b.names d = false
  | [], _, o, h, _, _ => by simp at h
  | p :: l, h, o, ho, d, hd => by
    simp only [freshAll, Bool.and_eq_true] at h
    rcases List.mem_cons.mp ho with rfl | ho
    · rw [hd] at h
      have h1 := h.1
      simp only [fresh, Bool.and_eq_true] at h1
      refine ⟨fun t => ?_, fun s r hr => freshR_spec h1.2 s r hr⟩
      have := tmps_all (p := fun a => !a.names d) h1.1 (by simp [AV.names]) t
      simpa using this
    · exact freshAll_spec h.2 o ho d hd
end

/-! ### In the order of the text -/
section
variable {E : Env} {lv : Lv E.sig} {fz : Nat → Bool} {ops : List Oper}

structure QStep (E : Env) (lv : Lv E.sig) (fz : Nat → Bool) (ops : List Oper) (b : Nat) (o : Oper) (S : St) (nw : List (Nat × Root)) (S1 : St) (nw1 : List (Nat × Root)) : Prop where
  roots : S1.roots = S.roots
  tm : ∀ t, o.dst ≠ some t → S1.tmp t = S.tmp t
  done : (Wants ops o S ∧ ∃ av rt, stepQ E lv o S q0 = some (av, rt) ∧ (∀ d, o.dst = some d → S1.tmp d = av) ∧
      (∀ p ∈ nw, p.1 ∈ slotsOf ops b ∨ (av.names p.1 = false ∧ ∀ r, rt = some r → ∀ c, Cell.av c ∈ r.cs → c.names p.1 = false)) ∧
      ((rt = none ∧ nw1 = nw) ∨ ∃ r d, rt = some r ∧ o.dst = some d ∧ nw1 = (d, frzR fz d r) :: nw ∧ (∀ t, (S.tmp t).names d = false) ∧ freshR d nw = true)) ∨
    (Wants.not ops o S ∧ (∀ d, o.dst = some d → S1.tmp d = .tup []) ∧ nw1 = nw)

theorem drawFit_spec {ss : List Nat} {nw : List (Nat × Root)} {S : St} {av : AV} {rt : Option Root} {d : Nat} (h : drawFit ss nw S av rt d = true) :
    (∀ p ∈ nw, p.1 ∈ ss ∨ (av.names p.1 = false ∧ ∀ r, rt = some r → ∀ c, Cell.av c ∈ r.cs → c.names p.1 = false)) ∧ ∀ r, rt = some r → (∀ t, (S.tmp t).names d = false) ∧ freshR d nw = true := by
  simp only [drawFit, Bool.and_eq_true] at h
  refine ⟨fun p hp => ?_, fun r hr => ?_⟩
  · have := List.all_eq_true.1 h.1 p hp
    simp only [Bool.or_eq_true, Bool.and_eq_true, Bool.not_eq_true'] at this
    rcases this with h1 | ⟨h1, h2⟩
    · exact .inl (memN_iff.1 h1)
    · refine .inr ⟨h1, fun r hr c hc => ?_⟩
      subst hr
      have := List.all_eq_true.1 h2 _ hc
      simpa using this
  · subst hr
    have h2 := h.2
    simp only [Bool.and_eq_true] at h2
    refine ⟨fun t => ?_, h2.2⟩
    have := tmps_all (p := fun a => !a.names d) h2.1 (by simp [AV.names]) t
    simpa using this

theorem same_ev {S S' : St} (h : Same S S') (x : Operand) : S'.ev x = S.ev x := by
  cases x <;> simp [St.ev, h.tm]
theorem Wants.congr {o : Oper} {S S' : St} (h : ∀ t, S'.tmp t = S.tmp t) (hw : Wants ops o S) : Wants ops o S' := fun j w e => let ⟨t, h1, h2⟩ := hw j w e; ⟨t, h1, (h t).trans h2⟩

theorem runDraw_trace {R : Type} {κ : St → Option R} {r : R} : ∀ (rest : List Oper) (i : Nat) (S : St) (nw : List (Nat × Root)), ops.drop i = rest → i ≤ ops.length → runDraw E lv fz ops rest ((befores ops []).drop i) nw S κ = some r →
    ∃ (st : Nat → St) (nws : Nat → List (Nat × Root)) (m : Nat), i ≤ m ∧ m ≤ ops.length ∧ st i = S ∧ nws i = nw ∧
      (∀ k o, i ≤ k → k < m → ops[k]? = some o → quietOp E.pks o = true ∧ QStep E lv fz ops ((befores ops []).getD k 0) o (st k) (nws k) (st (k + 1)) (nws (k + 1))) ∧
      ((m = ops.length ∧ κ (addRoots (st m) (nws m)) = some r) ∨ ∃ o ps, ops[m]? = some o ∧ quietOp E.pks o = false ∧ calmSlots (befores ops []) (st m) m 0 (ops.take m) = some ps ∧ runLate E lv fz ops ps (ops.drop m) (addRoots (st m) (nws m)) κ = some r)
  | [], i, S, nw, hi, hle, h => by
    have : ops.length ≤ i := by
      have := congrArg List.length hi
      simp at this; omega
    refine ⟨fun _ => S, fun _ => nw, i, Nat.le_refl _, hle, rfl, rfl, fun k o h1 h2 => by omega, .inl ⟨by omega, ?_⟩⟩
    cases hb : (befores ops []).drop i <;> rw [hb] at h <;> exact h
  | o :: rest, i, S, nw, hi, hle, h => by
    have hoi : ops[i]? = some o := by
      have := congrArg List.head? hi
      simpa [List.head?_drop] using this
    have hlt : i < ops.length := (List.getElem?_eq_some_iff.mp hoi).1
    have hdr : ops.drop (i + 1) = rest := by
      have := congrArg List.tail hi
      simpa [List.tail_drop] using this
    have hbl : i < (befores ops []).length := by rw [befores_length]; simpa using hlt
    have hb : (befores ops []).drop i = (befores ops []).getD i 0 :: (befores ops []).drop (i + 1) := by
      rw [List.drop_eq_getElem_cons hbl]
      congr 1
      rw [List.getD_eq_getElem?_getD, List.getElem?_eq_getElem hbl]; rfl
    rw [hb] at h
    simp only [runDraw] at h
    cases hq : quietOp E.pks o with
    | false =>
      rw [hq] at h
      have hlen : ops.length - (rest.length + 1) = i := by
        have := congrArg List.length hi
        simp at this; omega
      rw [hlen] at h
      simp only [cond] at h
      split at h
      · rename_i ps hps
        refine ⟨fun _ => S, fun _ => nw, i, Nat.le_refl _, hle, rfl, rfl, fun k o h1 h2 => by omega, .inr ⟨o, ps, hoi, hq, hps, ?_⟩⟩
        rw [hi]; exact h
      · cases h
    | true =>
      rw [hq] at h
      simp only [cond] at h
      -- one step, and the rest
      have fin : ∀ (S1 : St) (nw1 : List (Nat × Root)), QStep E lv fz ops ((befores ops []).getD i 0) o S nw S1 nw1 → runDraw E lv fz ops rest ((befores ops []).drop (i + 1)) nw1 S1 κ = some r →
          ∃ (st : Nat → St) (nws : Nat → List (Nat × Root)) (m : Nat), i ≤ m ∧ m ≤ ops.length ∧ st i = S ∧ nws i = nw ∧
            (∀ k o, i ≤ k → k < m → ops[k]? = some o → quietOp E.pks o = true ∧ QStep E lv fz ops ((befores ops []).getD k 0) o (st k) (nws k) (st (k + 1)) (nws (k + 1))) ∧
            ((m = ops.length ∧ κ (addRoots (st m) (nws m)) = some r) ∨ ∃ o ps, ops[m]? = some o ∧ quietOp E.pks o = false ∧ calmSlots (befores ops []) (st m) m 0 (ops.take m) = some ps ∧ runLate E lv fz ops ps (ops.drop m) (addRoots (st m) (nws m)) κ = some r) := by
        intro S1 nw1 hs hrun
        obtain ⟨st, nws, m, h1, h2, h3, h4, h5, h6⟩ := runDraw_trace rest (i + 1) S1 nw1 hdr (by omega) hrun
        refine ⟨fun k => if k = i then S else st k, fun k => if k = i then nw else nws k, m, by omega, h2, if_pos rfl, if_pos rfl, fun k o' hk1 hk2 ho' => ?_, ?_⟩
        · by_cases hki : k = i
          · subst hki
            rw [hoi] at ho'; cases ho'
            have e : ¬ (k + 1 = k) := by omega
            simp only [if_true, if_neg e]
            rw [h3, h4]
            exact ⟨hq, hs⟩
          · have e : ¬ (k + 1 = i) := by omega
            simp only [if_neg hki, if_neg e]
            exact h5 k o' (by omega) hk2 ho'
        · have e : ¬ (m = i) := by omega
          simp only [if_neg e]
          exact h6
      obtain ⟨S', hsame, hcase⟩ := guardK_sound h
      have tput : ∀ (av : AV), ∀ t, o.dst ≠ some t → (S'.putO o.dst av).tmp t = S.tmp t := fun av t ht => by rw [tmp_putO, if_neg ht, hsame.tm]
      have dput : ∀ (av : AV), ∀ d, o.dst = some d → (S'.putO o.dst av).tmp d = av := fun av d hd => by rw [tmp_putO, if_pos hd]
      have rput : ∀ (av : AV), (S'.putO o.dst av).roots = S.roots := fun av => by cases o.dst <;> exact hsame.rt
      rcases hcase with ⟨h1, hw⟩ | ⟨h1, hw⟩
      · rw [stepQ_bind] at h1
        have e1 : stepQ E lv o S' q0 = stepQ E lv o S q0 := stepQ_congr hsame.rt fun x _ => same_ev hsame x
        rw [e1] at h1
        cases hst : stepQ E lv o S q0 with
        | none => rw [hst] at h1; cases h1
        | some p =>
          obtain ⟨av, rt⟩ := p
          rw [hst] at h1
          simp only [Option.bind_some, q2] at h1
          have fitT : ∀ {d : Nat}, drawFit (slotsOf ops ((befores ops []).getD i 0)) nw S' av rt d = true → (∀ p ∈ nw, p.1 ∈ slotsOf ops ((befores ops []).getD i 0) ∨ (av.names p.1 = false ∧ ∀ r, rt = some r → ∀ c, Cell.av c ∈ r.cs → c.names p.1 = false)) ∧
              ∀ r, rt = some r → (∀ t, (S.tmp t).names d = false) ∧ freshR d nw = true := by
            intro d hf
            obtain ⟨q1, q2⟩ := drawFit_spec hf
            exact ⟨q1, fun r hr => ⟨fun t => by rw [← hsame.tm]; exact (q2 r hr).1 t, (q2 r hr).2⟩⟩
          cases rt with
          | none =>
            simp only at h1
            cases hf : drawFit (slotsOf ops ((befores ops []).getD i 0)) nw S' av none 0 with
            | false => rw [hf] at h1; cases h1
            | true =>
              rw [hf] at h1
              exact fin _ _ ⟨rput av, tput av, .inl ⟨hw, av, none, hst, dput av, (fitT hf).1, .inl ⟨rfl, rfl⟩⟩⟩ h1
          | some q =>
            cases hd : o.dst with
            | none => rw [hd] at h1; cases h1
            | some d =>
              rw [hd] at h1
              simp only at h1
              cases hf : drawFit (slotsOf ops ((befores ops []).getD i 0)) nw S' av (some q) d with
              | false => rw [hf] at h1; cases h1
              | true =>
                rw [hf] at h1
                have hp := rput av
                have hp2 := tput av
                have hp3 := dput av
                rw [hd] at hp hp2 hp3
                obtain ⟨f1, f2⟩ := fitT hf
                obtain ⟨f3, f4⟩ := f2 q rfl
                exact fin _ _ ⟨hp, by rw [hd]; exact hp2, .inl ⟨hw, av, some q, hst, by rw [hd]; exact hp3, f1, .inr ⟨q, d, rfl, hd, rfl, f3, f4⟩⟩⟩ h1
      · exact fin _ _ ⟨rput _, tput _, .inr ⟨hw, dput _, rfl⟩⟩ h1

/-- One of the late steps. -/
structure LStep (E : Env) (lv : Lv E.sig) (fz : Nat → Bool) (ops : List Oper) (o : Oper) (S S1 : St) : Prop where
  tm : ∀ t, o.dst ≠ some t → S1.tmp t = S.tmp t
  done : (Wants ops o S ∧ ∃ av rt rs ks, step1 E lv o S w0 = some (av, rt, rs, ks) ∧ (∀ d, o.dst = some d → S1.tmp d = av) ∧ (rt ≠ none → ∃ d, o.dst = some d ∧ ∀ t, (S.tmp t).names d = false) ∧
      (∀ s ∈ ks, ∀ t, (S.tmp t).namesB s = false) ∧ ∀ s, S1.root s = (St.gain fz (St.clearB ⟨S.tmps, rs⟩ ks) o av rt).root s) ∨
    (Wants.not ops o S ∧ (∀ d, o.dst = some d → S1.tmp d = .tup []) ∧ S1.roots = S.roots)

theorem killBs_id {ks : List Nat} {b : AV} (h : ∀ s ∈ ks, b.namesB s = false) : b.killBs ks = b := by
  induction ks with
  | nil => rfl
  | cons s ks ih =>
    have e : b.killB s = b := by unfold AV.killB; rw [h s List.mem_cons_self]; rfl
    simp only [AV.killBs, e]
    exact ih fun s' hs => h s' (List.mem_cons_of_mem _ hs)
theorem kill_id {d : Nat} {b : AV} (h : b.names d = false) : b.kill d = b := by unfold AV.kill; rw [h]; rfl
theorem gain_root {o : Oper} {av : AV} {rt : Option Root} {T T' : List (Nat × AV)} {rs : List (Nat × Root)} {ks : List Nat} (s : Nat) :
    (St.gain fz (St.clearB ⟨T, rs⟩ ks) o av rt).root s = (St.gain fz (St.clearB ⟨T', rs⟩ ks) o av rt).root s := by
  have e : ∀ i, (St.clearB ⟨T, rs⟩ ks).root i = (St.clearB ⟨T', rs⟩ ks).root i := fun i => by rw [root_clearB, root_clearB]; rfl
  cases rt with
  | none => simp only [St.gain, root_putO]; exact e s
  | some r =>
    simp only [St.gain]
    cases o.dst with
    | none => simp only [root_clear, e]
    | some d => simp only [root_put, root_setRoot, root_clear, e]
theorem gain_tmp {o : Oper} {av : AV} {rt : Option Root} {S : St} {rs : List (Nat × Root)} {ks : List Nat} (h1 : rt ≠ none → ∃ d, o.dst = some d ∧ ∀ t, (S.tmp t).names d = false) (h2 : ∀ s ∈ ks, ∀ t, (S.tmp t).namesB s = false) (t : Nat) :
    (St.gain fz (St.clearB ⟨S.tmps, rs⟩ ks) o av rt).tmp t = if o.dst = some t then av else S.tmp t := by
  have e : ∀ i, (St.clearB ⟨S.tmps, rs⟩ ks).tmp i = S.tmp i := fun i => by
    rw [tmp_clearB]
    exact killBs_id fun s hs => h2 s hs i
  cases rt with
  | none => simp only [St.gain, tmp_putO, e]
  | some r =>
    obtain ⟨d, hd, hnm⟩ := h1 (by simp)
    simp only [St.gain, hd, tmp_put, tmp_setRoot, tmp_clear, e, Option.some.injEq, eq_comm (a := d)]
    by_cases ht : t = d
    · simp [ht]
    · simp only [if_neg ht]; exact kill_id (hnm t)

theorem blind_none {S : St} {o : Oper} {av : AV} {rt : Option Root} (hb : blindOp o = true) (h : stepQ E lv o S q0 = some (av, rt)) : rt = none := by
  have e : stepQ E lv o S q0 = stepV E.ty o S q0 := by
    unfold stepQ
    unfold blindOp at hb
    split
    · rename_i c ho; rw [ho] at hb; cases hb
    · rfl
  rw [e] at h
  unfold blindOp at hb
  unfold stepV at h
  have bd : ∀ {x : Option AV} , (x.bind fun a => q0 a none) = some (av, rt) → rt = none := by
    intro x hx
    cases x with
    | none => cases hx
    | some a => simp [q0] at hx; exact hx.2.symm
  cases ho : o.op <;> rw [ho] at hb h <;> try (cases hb; done)
  case binOp op T x y c => simp only at h; rw [binK_bind] at h; exact bd h
  case unOp op T x => simp only at h; rw [unK_bind] at h; exact bd h
  case index T x i =>
    simp only [cond_eq_ite] at h
    split at h
    · split at h
      · rename_i b _
        generalize rd _ _ = z at h
        cases z with
        | none => cases h
        | some c => simp [q0] at h; exact h.2.symm
      · cases h
    · cases h
  all_goals
    simp only [cond_eq_ite, q0] at h
    repeat' (first | (cases h; done) | (simp at h; exact h.2.symm) | split at h)

theorem blind_quiet {pks : FuncId → List PK} {o : Oper} (h : blindOp o = true) : quietOp pks o = true := by
  unfold blindOp at h
  unfold quietOp
  cases ho : o.op <;> rw [ho] at h <;> first | rfl | cases h
theorem keeps_root {ps : List Nat} {S : St} {o : Oper} {av : AV} {rt : Option Root} {rs : List (Nat × Root)} {ks : List Nat} {T : List (Nat × AV)} (hk : keepsOf ps S o = true) (h : step1 E lv o S w0 = some (av, rt, rs, ks)) :
    ∀ s ∈ ps, (St.gain fz (St.clearB ⟨T, rs⟩ ks) o av rt).root s = S.root s := by
  intro s hs
  unfold keepsOf at hk
  rw [Bool.or_eq_true, Bool.or_eq_true] at hk
  rcases hk with hk | hk | hk
  · have : ps = [] := by simpa using hk
    subst this; simp at hs
  · unfold step1 at h
    rw [blind_quiet hk] at h
    simp only [cond] at h
    rw [stepQ_bind] at h
    cases hst : stepQ E lv o S q0 with
    | none => rw [hst] at h; cases h
    | some p =>
      obtain ⟨a, r⟩ := p
      have := blind_none hk hst
      subst this
      rw [hst] at h
      simp only [Option.bind_some, q2, w0, Option.some.injEq, Prod.mk.injEq] at h
      obtain ⟨rfl, rfl, rfl, rfl⟩ := h
      simp only [St.gain, root_putO]
      rfl
  · cases ho : o.op <;> rw [ho] at hk <;> try (cases hk; done)
    rename_i T' b x
    simp only at hk
    have hq : quietOp E.pks o = false := by unfold quietOp; rw [ho]
    unfold step1 at h
    rw [hq] at h
    simp only [cond] at h
    unfold stepW at h
    rw [ho] at h
    simp only at h
    split at h
    · cases hc : Nat.beq (S.ev x).leaves.length _ && allCells (S.ev x).leaves with
      | false => rw [hc] at h; cases h
      | true =>
        rw [hc] at h
        simp only [cond] at h
        unfold storeK at h
        split at hk
        · rename_i s' off hb
          rw [hb] at h
          simp only at h
          split at h
          · simp only [cond_eq_ite] at h
            split at h
            · simp only [w0, Option.some.injEq, Prod.mk.injEq] at h
              obtain ⟨rfl, rfl, rfl, rfl⟩ := h
              have hne : s ≠ s' := by
                rintro rfl
                rw [memN_iff.2 hs] at hk; cases hk
              simp only [St.gain, root_putO]
              show look s (put1 s' _ S.roots) = look s S.roots
              rw [look_put1, if_neg hne]
            · cases h
          · cases h
        · cases hk
    · cases h
theorem runLate_trace {R : Type} {κ : St → Option R} {r : R} {ps : List Nat} : ∀ (rest : List Oper) (i : Nat) (S : St), ops.drop i = rest → i ≤ ops.length → runLate E lv fz ops ps rest S κ = some r →
    ∃ (lt : Nat → St), lt i = S ∧ (∀ k o, i ≤ k → ops[k]? = some o → LStep E lv fz ops o (lt k) (lt (k + 1)) ∧ ∀ s ∈ ps, (lt (k + 1)).root s = (lt k).root s) ∧ κ (lt ops.length) = some r
  | [], i, S, hi, hle, h => by
    have hl : ops.length ≤ i := by
      have := congrArg List.length hi
      simp at this; omega
    refine ⟨fun _ => S, rfl, fun k o h1 h2 => ?_, h⟩
    have := (List.getElem?_eq_some_iff.mp h2).1
    omega
  | o :: rest, i, S, hi, hle, h => by
    have hoi : ops[i]? = some o := by
      have := congrArg List.head? hi
      simpa [List.head?_drop] using this
    have hlt : i < ops.length := (List.getElem?_eq_some_iff.mp hoi).1
    have hdr : ops.drop (i + 1) = rest := by
      have := congrArg List.tail hi
      simpa [List.tail_drop] using this
    simp only [runLate] at h
    have fin : ∀ S1 : St, LStep E lv fz ops o S S1 ∧ (∀ s ∈ ps, S1.root s = S.root s) → runLate E lv fz ops ps rest S1 κ = some r →
        ∃ (lt : Nat → St), lt i = S ∧ (∀ k o, i ≤ k → ops[k]? = some o → LStep E lv fz ops o (lt k) (lt (k + 1)) ∧ ∀ s ∈ ps, (lt (k + 1)).root s = (lt k).root s) ∧ κ (lt ops.length) = some r := by
      intro S1 hs hrun
      obtain ⟨lt, h1, h2, h3⟩ := runLate_trace rest (i + 1) S1 hdr (by omega) hrun
      refine ⟨fun k => if k = i then S else lt k, if_pos rfl, fun k o' hk ho' => ?_, ?_⟩
      · by_cases hki : k = i
        · subst hki
          rw [hoi] at ho'; cases ho'
          have e : ¬ (k + 1 = k) := by omega
          simp only [if_true, if_neg e]
          rw [h1]; exact hs
        · have e : ¬ (k + 1 = i) := by omega
          simp only [if_neg hki, if_neg e]
          exact h2 k o' (by omega) ho'
      · have e : ¬ (ops.length = i) := by omega
        simp only [if_neg e]
        exact h3
    obtain ⟨S', hsame, hcase⟩ := guardK_sound h
    rcases hcase with ⟨h1, hw⟩ | ⟨h1, hw⟩
    · rw [step1_bind] at h1
      have e1 : step1 E lv o S' w0 = step1 E lv o S w0 := step1_congr hsame.rt fun x _ => same_ev hsame x
      rw [e1] at h1
      cases hst : step1 E lv o S w0 with
      | none => rw [hst] at h1; cases h1
      | some p =>
        obtain ⟨av, rt, rs, ks⟩ := p
        rw [hst] at h1
        simp only [Option.bind_some, w4] at h1
        cases hc0 : lateOk S' o rt ks && keepsOf ps S' o with
        | false => rw [hc0] at h1; cases h1
        | true =>
          rw [hc0] at h1
          rw [Bool.and_eq_true] at hc0
          obtain ⟨hc, hkeep⟩ := hc0
          unfold lateOk at hc
          rw [Bool.and_eq_true] at hc
          simp only [cond] at h1
          have n1 : rt ≠ none → ∃ d, o.dst = some d ∧ ∀ t, (S'.tmp t).names d = false := by
            intro hrt
            cases rt with
            | none => exact absurd rfl hrt
            | some q =>
              have hc1 := hc.1
              cases hd : o.dst with
              | none => rw [hd] at hc1; cases hc1
              | some d =>
                rw [hd] at hc1
                refine ⟨d, rfl, fun t => ?_⟩
                have := tmps_all (p := fun a => !a.names d) hc1 (by simp [AV.names]) t
                simpa using this
          have n2 : ∀ s ∈ ks, ∀ t, (S'.tmp t).namesB s = false := by
            intro s hs t
            have := tmps_all (p := fun a => !a.namesB s) (List.all_eq_true.1 hc.2 s hs) (by simp [AV.namesB]) t
            simpa using this
          have gt := gain_tmp (fz := fz) (av := av) (rs := rs) n1 n2
          refine fin _ ⟨⟨fun t ht => ?_, .inl ⟨hw, av, rt, rs, ks, hst, fun d hd => ?_, fun hrt => ?_, fun s hs t => ?_, fun s => ?_⟩⟩, fun s hs => ?_⟩ h1
          · rw [gt, if_neg ht, hsame.tm]
          · rw [gt, if_pos hd]
          · obtain ⟨d, h1, h2⟩ := n1 hrt
            exact ⟨d, h1, fun t => by rw [← hsame.tm]; exact h2 t⟩
          · rw [← hsame.tm]; exact n2 s hs t
          · exact gain_root s
          · have := keeps_root (fz := fz) (T := S'.tmps) hkeep (e1.trans hst) s hs
            rw [this]
            show look s S'.roots = look s S.roots
            rw [hsame.rt]
    · refine fin _ ⟨⟨fun t ht => ?_, .inr ⟨hw, fun d hd => ?_, ?_⟩⟩, fun s _ => ?_⟩ h1
      · rw [tmp_putO, if_neg ht, hsame.tm]
      · rw [tmp_putO, if_pos hd]
      · cases o.dst <;> exact hsame.rt
      · rw [root_putO]
        show look s S'.roots = look s S.roots
        rw [hsame.rt]
end
end Go.Proofs.YtppmpfddcohkjaaA
