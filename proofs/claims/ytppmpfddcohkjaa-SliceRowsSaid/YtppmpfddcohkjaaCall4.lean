/- Calls: all arguments; the ghosts of both sides. -/
import Derived.Test.YtppmpfddcohkjaaCall3
namespace Go.Proofs.YtppmpfddcohkjaaA
open Go

section
variable {elid : El → Nat} {n : Nat} {w w' w'' : World} {g g' g'' gc : Gh} {S S' : St} {a : Act} {P : Program}

theorem look_append {α : Type} (k : Nat) (l m : List (Nat × α)) : look k (l ++ m) = match look k l with | some a => some a | none => look k m := by
  induction l with
  | nil => rfl
  | cons p l ih =>
    obtain ⟨i, a⟩ := p
    simp only [List.cons_append, look]
    cases Nat.beq i k with
    | true => rfl
    | false => simpa using ih
theorem enterT_cons (i : Nat) (r : Arg) (l : List Arg) : enterT i (r :: l) = enterT i [r] ++ enterT (i + 1) l := by
  cases r <;> rfl
theorem enterR_cons (i : Nat) (r : Arg) (l : List Arg) : enterR i (r :: l) = enterR i [r] ++ enterR (i + 1) l := by
  cases r <;> rfl

theorem argsW_rep {lend : Bool} {os : List Out} (hg : CG lend g gc os) (hgf : (∀ i p s j, ¬ SrcAt os i p s j) ∧ (∀ i s, ¬ BoxAt os i s) ∨ lend = false) (hl : Lends lend os) (hS : Rel elid n w g S a) (hS' : Rel elid n w g S' a) (hbx : ∀ s, S'.root s ≠ none → ∀ i, ¬ BoxAt os i s) :
    ∀ {ks : List PK} {as : List AV} {args : List Arg} {xs : List Out} {vals : List Value} (i0 : Nat), argsW lend S S' ks as = some (args, xs) → RepL w g as vals → (∀ q, q < xs.length → os[i0 + q]? = xs[q]?) → (lend = true → ∀ k ∈ ks, k.quiet = true) →
      args.length = vals.length ∧ (∀ k b, look k (enterT i0 args) = some b → ∃ q v, k = i0 + q ∧ vals[q]? = some v ∧ RepA w gc b v) ∧ ∀ s r, look s (enterR i0 args) = some r → RepR elid w gc s r
  | [], [], args, xs, vals, i0, h, hr, _, _ => by
    simp only [argsW, Option.some.injEq] at h; cases h
    rw [hr.nil_inv]
    exact ⟨rfl, fun k b hk => by simp [enterT, look] at hk, fun s r hs => by simp [enterR, look] at hs⟩
  | k :: ks, b :: as, args, xs, vals, i0, h, hr, hx, hq => by
    obtain ⟨v, vs, rfl, h1, h2⟩ := hr.cons_inv
    simp only [argsW] at h
    cases hb : argW lend S S' k b with
    | none => rw [hb] at h; cases h
    | some rx =>
      obtain ⟨r, x⟩ := rx
      rw [hb] at h
      simp only [Option.bind_some] at h
      cases hm : argsW lend S S' ks as with
      | none => rw [hm] at h; cases h
      | some my =>
        obtain ⟨m, y⟩ := my
        rw [hm] at h
        simp only [Option.map_some, Option.some.injEq] at h
        cases h
        have h0 := hx 0 (by simp)
        simp only [Nat.add_zero, List.getElem?_cons_zero] at h0
        have ha := argW_rep hg hgf hl hS hS' hbx hb (fun h => hq h k List.mem_cons_self) h1 h0
        obtain ⟨e1, e2, e3⟩ := argsW_rep hg hgf hl hS hS' hbx (i0 + 1) hm h2 (fun q hq => by
          have := hx (q + 1) (by simp; omega)
          rw [show i0 + (q + 1) = i0 + 1 + q by omega] at this
          simpa using this) (fun h k hk => hq h k (List.mem_cons_of_mem _ hk))
        refine ⟨by simp [e1], fun k' b' hk => ?_, fun s q hs => ?_⟩
        · rw [enterT_cons, look_append] at hk
          cases hl1 : look k' (enterT i0 [r]) with
          | some b1 =>
            rw [hl1] at hk; cases hk
            obtain ⟨q1, q2⟩ := ha.val _ _ hl1
            exact ⟨0, v, by omega, by simp, q2⟩
          | none =>
            rw [hl1] at hk
            obtain ⟨q, v', q1, q2, q3⟩ := e2 _ _ hk
            exact ⟨q + 1, v', by omega, by simpa using q2, q3⟩
        · rw [enterR_cons, look_append] at hs
          cases hl1 : look s (enterR i0 [r]) with
          | some b1 => rw [hl1] at hs; cases hs; exact ha.root _ _ hl1
          | none => rw [hl1] at hs; exact e3 _ _ hs
  | [], _ :: _, _, _, _, _, h, _, _, _ => by simp [argsW] at h
  | _ :: _, [], _, _, _, _, h, _, _, _ => by simp [argsW] at h

/-! ### The callee's ghost is there -/
theorem memP_iff {p : Nat × Nat} {l : List (Nat × Nat)} : memP p l = true ↔ p ∈ l := by
  induction l with
  | nil => simp [memP]
  | cons q l ih =>
    simp only [memP, Bool.or_eq_true, Bool.and_eq_true, ih, List.mem_cons]
    constructor
    · rintro (⟨h1, h2⟩ | h)
      · exact .inl (Prod.ext (Nat.eq_of_beq_eq_true h1).symm (Nat.eq_of_beq_eq_true h2).symm)
      · exact .inr h
    · rintro (rfl | h)
      · exact .inl (by simp)
      · exact .inr h
theorem nodupP_iff {l : List (Nat × Nat)} : nodupP l = true ↔ l.Nodup := by
  induction l with
  | nil => simp [nodupP]
  | cons p l ih =>
    simp only [nodupP, Bool.and_eq_true, Bool.not_eq_true', ih, List.nodup_cons]
    rw [← Bool.not_eq_true, memP_iff]
theorem nodupN_iff {l : List Nat} : nodupN l = true ↔ l.Nodup := by
  induction l with
  | nil => simp [nodupN]
  | cons p l ih =>
    simp only [nodupN, Bool.and_eq_true, ih, List.nodup_cons, List.all_eq_true, Bool.not_eq_true']
    constructor
    · rintro ⟨h1, h2⟩
      refine ⟨fun hm => ?_, h2⟩
      have := h1 p hm; simp at this
    · rintro ⟨h1, h2⟩
      exact ⟨fun m hm => beq_no fun e => h1 (e ▸ hm), h2⟩

theorem src_uniq {l : List (Option (Nat × Nat))} (h : (l.filterMap id).Nodup) {p q : Nat} {x : Nat × Nat} (hp : l[p]? = some (some x)) (hq : l[q]? = some (some x)) : p = q := by
  induction l generalizing p q with
  | nil => simp at hp
  | cons y l ih =>
    have hmem : ∀ k, l[k]? = some (some x) → x ∈ l.filterMap id := fun k hk => List.mem_filterMap.2 ⟨some x, List.mem_of_getElem? hk, rfl⟩
    cases y with
    | none =>
      simp only [List.filterMap_cons, id] at h
      cases p with
      | zero => simp at hp
      | succ p =>
        cases q with
        | zero => simp at hq
        | succ q => have e := ih h (p := p) (q := q) (by simpa using hp) (by simpa using hq); omega
    | some y =>
      simp only [List.filterMap_cons, id, List.nodup_cons] at h
      cases p with
      | zero =>
        cases q with
        | zero => rfl
        | succ q =>
          simp at hp; subst hp
          exact absurd (hmem q (by simpa using hq)) h.1
      | succ p =>
        cases q with
        | zero =>
          simp at hq; subst hq
          exact absurd (hmem p (by simpa using hp)) h.1
        | succ q => have e := ih h.2 (p := p) (q := q) (by simpa using hp) (by simpa using hq); omega

theorem srcAt_mem {os : List Out} {i p s j : Nat} (h : SrcAt os i p s j) : (s, j) ∈ srcsOf os := by
  obtain ⟨o, h1, h2⟩ := h
  induction os generalizing i with
  | nil => simp at h1
  | cons y os ih =>
    simp only [srcsOf, List.mem_append]
    cases i with
    | zero => simp at h1; subst h1; exact .inl (List.mem_filterMap.2 ⟨_, List.mem_of_getElem? h2, rfl⟩)
    | succ i => exact .inr (ih (by simpa using h1))
theorem srcAt_uniq {os : List Out} (h : (srcsOf os).Nodup) {i p i' p' s j : Nat} (h1 : SrcAt os i p s j) (h2 : SrcAt os i' p' s j) : i = i' ∧ p = p' := by
  induction os generalizing i i' with
  | nil => obtain ⟨o, h1, _⟩ := h1; simp at h1
  | cons y os ih =>
    simp only [srcsOf, List.nodup_append] at h
    obtain ⟨n1, n2, n3⟩ := h
    have tail : ∀ {i p}, SrcAt (y :: os) (i + 1) p s j → SrcAt os i p s j := fun ⟨o, q1, q2⟩ => ⟨o, by simpa using q1, q2⟩
    have head : ∀ {p}, SrcAt (y :: os) 0 p s j → y.srcs[p]? = some (some (s, j)) := by
      rintro p ⟨o, q1, q2⟩; simp at q1; subst q1; exact q2
    have hm : ∀ {p}, SrcAt (y :: os) 0 p s j → (s, j) ∈ y.srcs.filterMap id := fun h => List.mem_filterMap.2 ⟨_, List.mem_of_getElem? (head h), rfl⟩
    cases i with
    | zero =>
      cases i' with
      | zero => exact ⟨rfl, src_uniq n1 (head h1) (head h2)⟩
      | succ i' => exact absurd rfl (n3 _ (hm h1) _ (srcAt_mem (tail h2)))
    | succ i =>
      cases i' with
      | zero => exact absurd rfl (n3 _ (hm h2) _ (srcAt_mem (tail h1)))
      | succ i' =>
        obtain ⟨e1, e2⟩ := ih n2 (tail h1) (tail h2)
        exact ⟨by rw [e1], e2⟩
theorem boxAt_mem {os : List Out} {i s : Nat} (h : BoxAt os i s) : s ∈ boxesIn os := by
  obtain ⟨o, h1, h2⟩ := h
  induction os generalizing i with
  | nil => simp at h1
  | cons y os ih =>
    simp only [boxesIn]
    cases i with
    | zero => simp at h1; subst h1; rw [h2]; simp
    | succ i =>
      have := ih (i := i) (by simpa using h1)
      cases y.box <;> simp [this]
theorem boxAt_uniq {os : List Out} (h : (boxesIn os).Nodup) {i i' s : Nat} (h1 : BoxAt os i s) (h2 : BoxAt os i' s) : i = i' := by
  induction os generalizing i i' with
  | nil => obtain ⟨o, h1, _⟩ := h1; simp at h1
  | cons y os ih =>
    have tail : ∀ {i}, BoxAt (y :: os) (i + 1) s → BoxAt os i s := fun ⟨o, q1, q2⟩ => ⟨o, by simpa using q1, q2⟩
    have head : BoxAt (y :: os) 0 s → y.box = some s := by
      rintro ⟨o, q1, q2⟩; simp at q1; subst q1; exact q2
    have ht : (boxesIn os).Nodup ∧ (y.box = some s → s ∉ boxesIn os) := by
      simp only [boxesIn] at h
      cases hy : y.box with
      | none => rw [hy] at h; exact ⟨h, fun e => by cases e⟩
      | some s' =>
        rw [hy] at h
        simp only [List.nodup_cons] at h
        exact ⟨h.2, fun e => by cases e; exact h.1⟩
    cases i with
    | zero =>
      cases i' with
      | zero => rfl
      | succ i' => exact absurd (boxAt_mem (tail h2)) (ht.2 (head h1))
    | succ i =>
      cases i' with
      | zero => exact absurd (boxAt_mem (tail h1)) (ht.2 (head h2))
      | succ i' => rw [ih ht.1 (tail h1) (tail h2)]

theorem srcAt_fun {os : List Out} {i p s j s' j' : Nat} (h1 : SrcAt os i p s j) (h2 : SrcAt os i p s' j') : s = s' ∧ j = j' := by
  obtain ⟨o, a1, a2⟩ := h1
  obtain ⟨o', b1, b2⟩ := h2
  rw [a1] at b1; cases b1
  rw [a2] at b2; cases b2
  exact ⟨rfl, rfl⟩
theorem boxAt_fun {os : List Out} {i s s' : Nat} (h1 : BoxAt os i s) (h2 : BoxAt os i s') : s = s' := by
  obtain ⟨o, a1, a2⟩ := h1
  obtain ⟨o', b1, b2⟩ := h2
  rw [a1] at b1; cases b1
  rw [a2] at b2; cases b2
  rfl

open Classical in
noncomputable def gCal (lend : Bool) (g : Gh) (os : List Out) : Gh where
  who b o :=
    match g.who b o with
    | .obj s (some j) => if h : ∃ ip : Nat × Nat, SrcAt os ip.1 ip.2 s j then .obj (1000 + h.choose.1) (some h.choose.2) else if lend then .imm else .other
    | .obj s none => if h : ∃ i, BoxAt os i s then .obj (1000 + h.choose) none else .bor
    | q => q
  hs s' p := if h : ∃ x : Nat × Nat × Nat, s' = 1000 + x.1 ∧ SrcAt os x.1 p x.2.1 x.2.2 then g.hs h.choose.2.1 h.choose.2.2 else .slice none 0 0
  hb s' := if h : ∃ x : Nat × Nat, s' = 1000 + x.1 ∧ BoxAt os x.1 x.2 then g.hb h.choose.2 else (0, 0)

theorem CG.of {lend : Bool} {os : List Out} (h1 : (srcsOf os).Nodup) (h2 : (boxesIn os).Nodup) : CG lend g (gCal lend g os) os := by
  refine ⟨?_, ?_, ?_, ?_, ?_, ?_, ?_, ?_, ?_, ?_, ?_, ?_⟩
  · intro b o e; simp [gCal, e]
  · intro b o e; simp [gCal, e]
  · intro b o e; simp [gCal, e]
  · intro b o s e hn
    have : ¬ ∃ i, BoxAt os i s := fun ⟨i, h⟩ => hn i h
    simp [gCal, e, this]
  · intro hl b o s j e hn
    have : ¬ ∃ ip : Nat × Nat, SrcAt os ip.1 ip.2 s j := fun ⟨ip, h⟩ => hn _ _ h
    simp only [gCal, e]
    rw [dif_neg this, if_pos hl]
  · intro i p s j hs b o e
    have hex : ∃ ip : Nat × Nat, SrcAt os ip.1 ip.2 s j := ⟨(i, p), hs⟩
    simp only [gCal, e]
    rw [dif_pos hex]
    obtain ⟨e1, e2⟩ := srcAt_uniq h1 hex.choose_spec hs
    rw [e1, e2]
  · intro i s hb b o e
    have hex : ∃ i, BoxAt os i s := ⟨i, hb⟩
    simp only [gCal, e]
    rw [dif_pos hex, boxAt_uniq h2 hex.choose_spec hb]
  · intro i p s j hs
    have hex : ∃ x : Nat × Nat × Nat, 1000 + i = 1000 + x.1 ∧ SrcAt os x.1 p x.2.1 x.2.2 := ⟨(i, s, j), rfl, hs⟩
    simp only [gCal]
    rw [dif_pos hex]
    obtain ⟨q1, q2⟩ := hex.choose_spec
    have q3 : i = hex.choose.1 := by omega
    rw [← q3] at q2
    obtain ⟨e1, e2⟩ := srcAt_fun q2 hs
    rw [e1, e2]
  · intro i p o ho hn
    have : ¬ ∃ x : Nat × Nat × Nat, 1000 + i = 1000 + x.1 ∧ SrcAt os x.1 p x.2.1 x.2.2 := by
      rintro ⟨x, q1, o', q2, q3⟩
      have : i = x.1 := by omega
      rw [← this, ho] at q2; cases q2
      rw [hn] at q3; cases q3
    simp only [gCal]
    rw [dif_neg this]
  · intro i s hb
    have hex : ∃ x : Nat × Nat, 1000 + i = 1000 + x.1 ∧ BoxAt os x.1 x.2 := ⟨(i, s), rfl, hb⟩
    simp only [gCal]
    rw [dif_pos hex]
    obtain ⟨q1, q2⟩ := hex.choose_spec
    have q3 : i = hex.choose.1 := by omega
    rw [← q3] at q2
    rw [boxAt_fun q2 hb]
  · intro b o s' x e
    simp only [gCal] at e
    cases hw : g.who b o with
    | imm => rw [hw] at e; cases e
    | bor => rw [hw] at e; cases e
    | other => rw [hw] at e; cases e
    | obj s y =>
      rw [hw] at e
      cases y with
      | none =>
        simp only at e
        split at e
        · rename_i h
          cases e
          exact .inr ⟨_, s, h.choose_spec, rfl, rfl, rfl⟩
        · cases e
      | some j =>
        simp only at e
        split at e
        · rename_i h
          cases e
          exact .inl ⟨_, _, s, j, h.choose_spec, rfl, rfl, rfl⟩
        · split at e <;> cases e
  · intro hl b o s j e hn
    have : ¬ ∃ ip : Nat × Nat, SrcAt os ip.1 ip.2 s j := fun ⟨ip, h⟩ => hn _ _ h
    simp only [gCal, e]
    rw [dif_neg this, hl]
    rfl

/-! ### The contract -/
/-- What a call's answer says of the memory behind it. -/
structure ResOK (elid : El → Nat) (w : World) (g : Gh) (s : Sig) (r : s.den) (v : Value) : Prop where
  val : RepA w g (valOf (RKs.inj 0 0 s.res (s.res1 r)).1) v
  own : RepR elid w g 0 ⟨false, (RKs.inj 0 0 s.res (s.res1 r)).2⟩
  back : ∀ i cs, (i, cs) ∈ Backs.cells s.back (s.back1 r) → RepR elid w g (1000 + i) ⟨true, cs⟩

/-- What a call's arguments say of the memory ahead of it. -/
structure ArgsOK (elid : El → Nat) (w : World) (g : Gh) (args : List Arg) (vals : List Value) : Prop where
  len : args.length = vals.length
  val : ∀ k b, look k (enterT 0 args) = some b → ∃ v, vals[k]? = some v ∧ RepA w g b v
  root : ∀ s r, look s (enterR 0 args) = some r → RepR elid w g s r

/-- A function of the program with a body. -/
def Bodied (P : Program) (f : FuncId) : Prop := ∃ fn, P.funcs[f]? = some fn ∧ (fn.name == "runtime.NumGoroutine") = false ∧ fn.body.isNone = false

def LvOK (P : Program) (elid : El → Nat) (sig : FuncId → Sig) (lv : Lv sig) : Prop :=
  ∀ f args r, lv f args = some r → Bodied P f ∧ ∀ w g vals, ArgsOK elid w g args vals →
    Calls P f vals.toArray w fun e w' => ∃ v g', e = .returned v ∧ Inv w g w' g' ∧ ResOK elid w' g' (sig f) r v

end
end Go.Proofs.YtppmpfddcohkjaaA
