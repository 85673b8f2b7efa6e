/- Calls: the caller's view of the memory behind one. -/
import Derived.Test.YtppmpfddcohkjaaCall4
namespace Go.Proofs.YtppmpfddcohkjaaA
open Go

section
variable {elid : El → Nat} {n : Nat} {w w' w'' : World} {g g' g'' gc gc' : Gh} {S S' : St} {a : Act} {P : Program}

/-! ### Values that point at nothing but what nobody writes -/
inductive Plain : AV → Prop
  | bool (b : Bool) : Plain (.bool b)
  | int (k : IntKind) (n : Int) : Plain (.int k n)
  | str (l : List UInt8) : Plain (.str l)
  | nils : Plain .nils
  | L (t : El) (xs : List t.den) : Plain (.L t xs)
  | optp (t : El) (x : Option t.den) : Plain (.optp t x)
  | vi (cs : List AV) (h : ∀ a, a ∈ cs → Plain a) : Plain (.vi cs)

theorem cells_plain (t : El) (x : t.den) : ∀ a, a ∈ t.cells x → Plain a := by
  intro a ha
  cases t <;> simp [El.cells] at ha <;> (first | (subst ha; constructor) | (rcases ha with h | h | h | h | h | h | h <;> subst h <;> constructor) | (rcases ha with h | h | h | h <;> subst h <;> constructor) | (rcases ha with h | h | h <;> subst h <;> constructor))
theorem flat_plain (t : El) (xs : List t.den) : ∀ a, a ∈ flat t xs → Plain a := by
  intro a ha
  simp only [flat, List.mem_flatMap] at ha
  obtain ⟨x, _, hx⟩ := ha
  exact cells_plain t x a hx
theorem RepA.plain (hi : ∀ b o v, w.cell? ⟨b, o, none⟩ = some v → g.who b o = .imm → g'.who b o = .imm) {b : AV} {v : Value} (h : RepA w g b v) : Plain b → RepA w g' b v := by
  induction h with
  | list t xs b o cap vals hcap hcc hr ih =>
    intro _
    exact .list t xs b o cap vals hcap (fun j hj => ⟨hi _ _ _ (hcc j hj).2 (hcc j hj).1, (hcc j hj).2⟩) (fun j hj => ih j hj (flat_plain t xs _ (List.getElem_mem hj)))
  | lnil t a cap => intro _; exact .lnil t a cap
  | bool b => intro _; constructor
  | int k n => intro _; constructor
  | str l => intro _; constructor
  | nils => intro _; constructor
  | und => intro h; cases h
  | al => intro h; cases h
  | ref => intro h; cases h
  | eref => intro h; cases h
  | bs => intro h; cases h
  | bref => intro h; cases h
  | bal => intro h; cases h
  | vp => intro h; cases h
  | vi cs b o vals hcc hr ih =>
    intro h
    cases h with
    | vi _ h => exact .vi cs b o vals (fun j hj => ⟨hi _ _ _ (hcc j hj).2 (hcc j hj).1, (hcc j hj).2⟩) (fun j hj => ih j hj (h _ (List.getElem_mem hj)))
  | nilp => intro h; cases h
  | opt0 t => intro _; exact .opt0 t
  | opt1 t x v h ih => intro _; exact .opt1 t x v (ih (.vi _ (cells_plain t x)))
  | nq => intro h; cases h
  | agg => intro h; cases h
  | tup => intro h; cases h
  | fn => intro h; cases h

/-- A cell that names nothing. -/
def PlainC (c : Cell) : Prop := ∀ a, c = .av a → Plain a
theorem LK.plain (k : LK) (x : k.den) : PlainC (k.cell x) := by
  intro a h
  cases k <;> simp [LK.cell] at h <;> subst h <;> constructor
theorem LKs.plain : ∀ (ks : List LK) (x : LKs.den ks), ∀ c ∈ LKs.cells ks x, PlainC c
  | [], _, c, h => by simp [LKs.cells] at h
  | [k], x, c, h => by simp [LKs.cells] at h; subst h; exact k.plain x
  | k :: k' :: ks, x, c, h => by
    simp only [LKs.cells, List.mem_cons] at h
    rcases h with rfl | h
    · exact k.plain _
    · exact LKs.plain (k' :: ks) x.2 c h
theorem RK.plain (d j : Nat) (k : RK) (x : k.den) : ∀ c ∈ (k.inj d j x).2, PlainC c := by
  intro c h
  cases k with
  | one k => simp [RK.inj] at h; subst h; exact k.plain x
  | agg ks => exact LKs.plain ks x c h
  | el t => simp [RK.inj] at h
  | ptr t => simp [RK.inj] at h
theorem RKs.plain (d : Nat) : ∀ (j : Nat) (ks : List RK) (x : RKs.den ks), ∀ c ∈ (RKs.inj d j ks x).2, PlainC c
  | _, [], _, c, h => by simp [RKs.inj] at h
  | j, [k], x, c, h => k.plain d j x c h
  | j, k :: k' :: ks, x, c, h => by
    simp only [RKs.inj, List.mem_append] at h
    rcases h with h | h
    · exact k.plain d j x.1 c h
    · exact RKs.plain d _ (k' :: ks) x.2 c h
theorem Backs.plain : ∀ (bs : List (Nat × List LK)) (x : Backs.den bs), ∀ i cs, (i, cs) ∈ Backs.cells bs x → ∀ c ∈ cs, PlainC c
  | [], _, i, cs, h => by simp [Backs.cells] at h
  | [(j, ks)], x, i, cs, h => by
    simp only [Backs.cells, List.mem_singleton, Prod.mk.injEq] at h
    obtain ⟨_, rfl⟩ := h
    exact LKs.plain ks x
  | (j, ks) :: b :: bs, x, i, cs, h => by
    simp only [Backs.cells, List.mem_cons, Prod.mk.injEq] at h
    rcases h with ⟨_, rfl⟩ | h
    · exact LKs.plain ks x.1
    · exact Backs.plain (b :: bs) x.2 i cs (by simpa using h)

/-! ### The same value with another slot -/
inductive Rn (d : Nat) (G : Bool) : AV → AV → Prop
  | same (a : AV) (h : Plain a) : Rn d G a a
  | al (j : Nat) (h : G = true) : Rn d G (.al 0 j) (.al d j)
  | agg (l m : List AV) (hl : l.length = m.length) (h : ∀ i (h1 : i < l.length) (h2 : i < m.length), Rn d G (l[i]) (m[i])) : Rn d G (.agg l) (.agg m)
  | tup (l m : List AV) (hl : l.length = m.length) (h : ∀ i (h1 : i < l.length) (h2 : i < m.length), Rn d G (l[i]) (m[i])) : Rn d G (.tup l) (.tup m)

def RnL (d : Nat) (G : Bool) (l m : List AV) : Prop := l.length = m.length ∧ ∀ i (h1 : i < l.length) (h2 : i < m.length), Rn d G (l[i]) (m[i])
theorem RnL.nil {d : Nat} {G : Bool} : RnL d G [] [] := ⟨rfl, fun i h => by simp at h⟩
theorem RnL.cons {d : Nat} {G : Bool} {a b : AV} {l m : List AV} (h : Rn d G a b) (hl : RnL d G l m) : RnL d G (a :: l) (b :: m) := by
  refine ⟨by simp [hl.1], fun i h1 h2 => ?_⟩
  cases i with
  | zero => exact h
  | succ i => exact hl.2 i (by simpa using h1) (by simpa using h2)
theorem RnL.same {d : Nat} {G : Bool} {l : List AV} (h : ∀ a ∈ l, Plain a) : RnL d G l l := ⟨rfl, fun i h1 _ => .same _ (h _ (List.getElem_mem h1))⟩

theorem Rn.rep {d : Nat} {G : Bool} (hi : ∀ b o v, w.cell? ⟨b, o, none⟩ = some v → g.who b o = .imm → g'.who b o = .imm) (hs : G = true → ∀ j, g'.hs d j = g.hs 0 j) {b c : AV} (h : Rn d G b c) :
    ∀ {v : Value}, RepA w g b v → RepA w g' c v := by
  induction h with
  | same a h => intro v hv; exact hv.plain hi h
  | al j hG =>
    intro v hv
    cases hv with
    | al _ _ a m c h => exact .al d j a m c ((hs hG j).trans h)
  | agg l m hl h ih =>
    intro v hv
    obtain ⟨vs, rfl, e1, e2⟩ := hv.agg_inv
    exact .agg m vs (e1.trans hl) fun j h1 h2 => ih j (by omega) h1 (e2 j (by omega) h2)
  | tup l m hl h ih =>
    intro v hv
    cases hv with
    | tup _ vs e1 e2 => exact .tup m vs (e1.trans hl) fun j h1 h2 => ih j (by omega) h1 (e2 j (by omega) h2)

theorem hasOwn_append (l m : List Cell) : hasOwn (l ++ m) = (hasOwn l || hasOwn m) := by
  induction l with
  | nil => rfl
  | cons c l ih => cases c <;> simp [hasOwn, ih]
theorem cell_rn {d j : Nat} {G : Bool} {c : Cell} (hc : PlainC c) (hG : hasOwn [c] = true → G = true) : Rn d G (cellAV 0 j c) (cellAV d j c) := by
  cases c with
  | av a => exact .same a (hc a rfl)
  | sl t fz xs => exact .al j (hG rfl)
theorem cells_rn {d : Nat} {G : Bool} : ∀ (j : Nat) {cs : List Cell}, (∀ c ∈ cs, PlainC c) → (hasOwn cs = true → G = true) → RnL d G (cellsAV 0 j cs) (cellsAV d j cs)
  | _, [], _, _ => .nil
  | j, c :: cs, hc, hG => by
    have h1 : hasOwn (c :: cs) = (hasOwn [c] || hasOwn cs) := by rw [← hasOwn_append]; rfl
    refine .cons (cell_rn (hc c List.mem_cons_self) fun h => hG (by rw [h1, h]; rfl)) (cells_rn (j + 1) (fun c hm => hc c (List.mem_cons_of_mem _ hm)) fun h => hG (by rw [h1, h]; simp))
theorem RK.rn {d j : Nat} {G : Bool} (k : RK) (x : k.den) (hG : hasOwn (k.inj d j x).2 = true → G = true) : Rn d G (k.inj 0 j x).1 (k.inj d j x).1 := by
  cases k with
  | one k => exact cell_rn (k.plain x) hG
  | agg ks =>
    have := cells_rn (d := d) (G := G) j (LKs.plain ks x) hG
    exact .agg _ _ this.1 this.2
  | el t =>
    have hc := cells_plain t x
    cases t with
    | int k => exact .same _ (.int _ _)
    | bool => exact .same _ (.bool _)
    | str => exact .same _ (.str _)
    | list e => exact .same _ (.L _ _)
    | node => have := RnL.same (d := d) (G := G) hc; exact .agg _ _ this.1 this.2
    | arr => have := RnL.same (d := d) (G := G) hc; exact .agg _ _ this.1 this.2
    | col => have := RnL.same (d := d) (G := G) hc; exact .agg _ _ this.1 this.2
    | blk => have := RnL.same (d := d) (G := G) hc; exact .agg _ _ this.1 this.2
  | ptr t => exact .same _ (.optp t x)
theorem RK.inj_two (d j j' : Nat) (k : RK) (x : k.den) : (k.inj d j x).2 = (k.inj 0 j' x).2 := by
  cases k <;> rfl
theorem RKs.inj_two (d : Nat) : ∀ (j j' : Nat) (ks : List RK) (x : RKs.den ks), (RKs.inj d j ks x).2 = (RKs.inj 0 j' ks x).2
  | _, _, [], _ => rfl
  | j, j', [k], x => k.inj_two d j j' x
  | j, j', k :: k' :: ks, x => by
    simp only [RKs.inj]
    rw [k.inj_two d j j' x.1, RKs.inj_two d _ (j' + (k.inj 0 j' x.1).2.length) (k' :: ks) x.2]
theorem RKs.rn {d : Nat} {G : Bool} : ∀ (j : Nat) (ks : List RK) (x : RKs.den ks), (hasOwn (RKs.inj d j ks x).2 = true → G = true) → RnL d G (RKs.inj 0 j ks x).1 (RKs.inj d j ks x).1
  | _, [], _, _ => .nil
  | j, [k], x, hG => .cons (k.rn x hG) .nil
  | j, k :: k' :: ks, x, hG => by
    simp only [RKs.inj, hasOwn_append] at hG ⊢
    have e := k.inj_two d j j x.1
    rw [e] at hG ⊢
    refine .cons (k.rn x.1 fun h => hG (by rw [← e, h]; rfl)) ?_
    exact RKs.rn _ (k' :: ks) x.2 fun h => hG (by rw [h]; simp)
theorem valOf_rn {d : Nat} {G : Bool} {l m : List AV} (h : RnL d G l m) : Rn d G (valOf l) (valOf m) := by
  obtain ⟨h1, h2⟩ := h
  match l, m, h1, h2 with
  | [], [], _, _ => exact .tup [] [] rfl fun i h => by simp at h
  | [a], [b], _, h2 => exact h2 0 (by simp) (by simp)
  | a :: b :: l, c :: e :: m, h1, h2 => exact .tup _ _ h1 h2
  | [], _ :: _, h1, _ => simp at h1
  | _ :: _, [], h1, _ => simp at h1
  | [_], _ :: _ :: _, h1, _ => simp at h1
  | _ :: _ :: _, [_], h1, _ => simp at h1

/-- Results that point nowhere. -/
inductive Dull : AV → Prop
  | bool (b : Bool) : Dull (.bool b)
  | int (k : IntKind) (n : Int) : Dull (.int k n)
  | str (l : List UInt8) : Dull (.str l)
theorem RepA.dull {b : AV} {v : Value} (h : RepA w g b v) (hb : Dull b) : RepA w' g' b v := by
  cases hb <;> cases h <;> constructor
def dullR (r : RK) : Bool := match r with | .one .bool | .one (.int _) | .one .str => true | _ => false
theorem RK.dull {k : RK} (h : dullR k = true) (d j : Nat) (x : k.den) : Dull (k.inj d j x).1 ∧ hasOwn (k.inj d j x).2 = false ∧ (k.inj d j x).1 = (k.inj 0 j x).1 ∧ (k.inj d j x).2.length = 1 := by
  cases k with
  | one k => cases k <;> simp [dullR] at h <;> exact ⟨by constructor, rfl, rfl, rfl⟩
  | agg ks => simp [dullR] at h
  | el t => simp [dullR] at h
  | ptr t => simp [dullR] at h
theorem RKs.dull (d : Nat) : ∀ (j : Nat) (ks : List RK) (x : RKs.den ks), ks.all dullR = true → (∀ a ∈ (RKs.inj d j ks x).1, Dull a) ∧ hasOwn (RKs.inj d j ks x).2 = false ∧ (RKs.inj d j ks x).1 = (RKs.inj 0 j ks x).1
  | _, [], _, _ => ⟨fun a h => by simp [RKs.inj] at h, rfl, rfl⟩
  | j, [k], x, h => by
    simp only [List.all_cons, List.all_nil, Bool.and_true] at h
    obtain ⟨h1, h2, h3, _⟩ := RK.dull h d j x
    exact ⟨fun a ha => by simp [RKs.inj] at ha; subst ha; exact h1, h2, by simp [RKs.inj, h3]⟩
  | j, k :: k' :: ks, x, h => by
    rw [List.all_cons, Bool.and_eq_true] at h
    obtain ⟨h1, h2, h3, h4⟩ := RK.dull h.1 d j x.1
    obtain ⟨_, _, _, h4'⟩ := RK.dull h.1 0 j x.1
    obtain ⟨q1, q2, q3⟩ := RKs.dull d (j + (k.inj d j x.1).2.length) (k' :: ks) x.2 h.2
    refine ⟨fun a ha => ?_, ?_, ?_⟩
    · simp only [RKs.inj, List.mem_cons] at ha
      rcases ha with rfl | ha
      · exact h1
      · exact q1 a ha
    · simp only [RKs.inj, hasOwn_append, h2, q2, Bool.or_false]
    · rw [h4] at q3
      simp only [RKs.inj, h3, h4, h4', q3]
theorem valOf_dull {l : List AV} (h : ∀ a ∈ l, Dull a) {v : Value} (hv : RepA w g (valOf l) v) : RepA w' g' (valOf l) v := by
  match l, h, hv with
  | [], _, hv =>
    cases hv with
    | tup _ vs e1 e2 => exact .tup [] vs e1 fun j h => by simp at h
  | [a], h, hv => exact hv.dull (h a (by simp))
  | a :: b :: l, h, hv =>
    cases hv with
    | tup _ vs e1 e2 => exact .tup _ vs e1 fun j h1 h2 => (e2 j h1 h2).dull (h _ (List.getElem_mem h1))

/-! ### The caller's ghost behind a call -/
def Handed (os : List Out) (s : Nat) (x : Option Nat) : Prop := (x = none ∧ ∃ i, BoxAt os i s) ∨ ∃ i p j, x = some j ∧ SrcAt os i p s j

open Classical in
noncomputable def backO (os : List Out) (d : Nat) (G : Bool) : Own → Own
  | .imm => .imm
  | .obj s x => if s = 0 ∧ G = true then .obj d x else if h : ∃ p : Nat × Nat, s = 1000 + p.1 ∧ BoxAt os p.1 p.2 then .obj h.choose.2 x else .other
  | _ => .other
open Classical in
noncomputable def gAft (w : World) (g gc' : Gh) (os : List Out) (d : Nat) (G : Bool) : Gh where
  who b o := if b < w.heap.size then (match g.who b o with | .obj s x => if Handed os s x then backO os d G (gc'.who b o) else .obj s x | q => q) else backO os d G (gc'.who b o)
  hs s j := if s = d ∧ G = true then gc'.hs 0 j else if h : ∃ i, BoxAt os i s then gc'.hs (1000 + h.choose) j else g.hs s j
  hb := g.hb

section
variable {lend : Bool} {os : List Out} {d : Nat} {G : Bool}
theorem backO_zero (x : Option Nat) : backO os d true (.obj 0 x) = .obj d x := by simp [backO]
theorem backO_box {i s : Nat} (h : BoxAt os i s) (x : Option Nat) : backO os d G (.obj (1000 + i) x) = .obj s x := by
  have hex : ∃ p : Nat × Nat, 1000 + i = 1000 + p.1 ∧ BoxAt os p.1 p.2 := ⟨(i, s), rfl, h⟩
  simp only [backO]
  rw [if_neg (by omega), dif_pos hex]
  obtain ⟨h1, h2⟩ := hex.choose_spec
  have h3 : i = hex.choose.1 := by omega
  rw [← h3] at h2
  rw [boxAt_fun h2 h]
theorem aft_who (hg : CG lend g gc os) (hi : Inv w gc w' gc') (hf : lend = false) {b o : Nat} {q : Own} (hq : gc'.who b o = q) (hq' : q = .imm ∨ ∃ s x, q = .obj s x) : (gAft w g gc' os d G).who b o = backO os d G q := by
  simp only [gAft]
  by_cases hb : b < w.heap.size
  · rw [if_pos hb]
    cases hw : g.who b o with
    | imm =>
      have := hi.imm b o hb (hg.imm b o hw)
      rw [hq] at this; subst this; rfl
    | bor =>
      have := hi.bor b o hb (hg.bor b o hw)
      rw [hq] at this; subst this
      rcases hq' with h | ⟨_, _, h⟩ <;> cases h
    | other =>
      have := hi.other b o hb (hg.other b o hw)
      rw [hq] at this; subst this
      rcases hq' with h | ⟨_, _, h⟩ <;> cases h
    | obj s x =>
      by_cases hh : Handed os s x
      · simp only [hh, if_true]; rw [hq]
      · exfalso
        cases x with
        | none =>
          have := hi.bor b o hb (hg.box b o s hw fun i h => hh (.inl ⟨rfl, i, h⟩))
          rw [hq] at this; subst this
          rcases hq' with h | ⟨_, _, h⟩ <;> cases h
        | some j =>
          have := hi.other b o hb (hg.keepo hf b o s j hw fun i p h => hh (.inr ⟨i, p, j, rfl, h⟩))
          rw [hq] at this; subst this
          rcases hq' with h | ⟨_, _, h⟩ <;> cases h
  · rw [if_neg hb, hq]
theorem aft_imm (hg : CG lend g gc os) (hi : Inv w gc w' gc') (hf : lend = false) : ∀ b o v, w'.cell? ⟨b, o, none⟩ = some v → gc'.who b o = .imm → (gAft w g gc' os d G).who b o = .imm :=
  fun b o _ _ h => aft_who hg hi hf h (.inl rfl)
theorem RepS.aft (hg : CG lend g gc os) (hi : Inv w gc w' gc') (hf : lend = false) {s0 s1 j : Nat} {t : El} {fz : Bool} {xs : List t.den} (h : RepS elid w' gc' s0 j t fz xs)
    (hs : (gAft w g gc' os d G).hs s1 j = gc'.hs s0 j) (hb : ∀ x, backO os d G (.obj s0 x) = .obj s1 x) : RepS elid w' (gAft w g gc' os d G) s1 j t fz xs := by
  obtain ⟨⟨vs, h1, h2, h3⟩, hown⟩ := h
  refine ⟨⟨vs, by rw [hs]; exact h1, h2, fun i h h' => (h3 i h h').plain (aft_imm hg hi hf) (flat_plain t xs _ (List.getElem_mem h))⟩, fun b m cap e => ?_⟩
  rw [hs] at e
  obtain ⟨hlt, hw⟩ := hown b m cap e
  refine ⟨hlt, fun o => ?_⟩
  have := hw o
  split at this
  · rename_i ho
    rw [if_pos ho]
    cases fz with
    | true => exact aft_who hg hi hf (by simpa using this) (.inl rfl)
    | false =>
      rw [aft_who hg hi hf (q := .obj s0 (some j)) (by simpa using this) (.inr ⟨_, _, rfl⟩)]
      exact hb _
  · rename_i ho
    rw [if_neg ho, aft_who hg hi hf this (.inr ⟨_, _, rfl⟩)]
    exact hb _
theorem aft_hs_box (hn : (boxesIn os).Nodup) {i s : Nat} (h : BoxAt os i s) (hd : ¬ (s = d ∧ G = true)) (j : Nat) : (gAft w g gc' os d G).hs s j = gc'.hs (1000 + i) j := by
  have hex : ∃ i, BoxAt os i s := ⟨i, h⟩
  simp only [gAft]
  rw [if_neg hd, dif_pos hex, boxAt_uniq hn hex.choose_spec h]
theorem aft_hs_old {s j : Nat} (hd : ¬ (s = d ∧ G = true)) (h : ∀ i, ¬ BoxAt os i s) : (gAft w g gc' os d G).hs s j = g.hs s j := by
  simp only [gAft]
  rw [if_neg hd, dif_neg fun ⟨i, hi⟩ => h i hi]

/-- What the places are that a call has changed. -/
theorem aft_chg (hg : CG lend g gc os) (hi : Inv w gc w' gc') : Chg w w' fun b o => ∃ s x, g.who b o = .obj s x ∧ Handed os s x := by
  refine hi.chg.mono ?_
  rintro b o _ ⟨s', x, e⟩
  rcases hg.from_ b o s' x e with ⟨i, p, s, j, h1, _, _, h2⟩ | ⟨i, s, h1, _, _, h2⟩
  · exact ⟨_, _, h2, .inr ⟨i, p, j, rfl, h1⟩⟩
  · exact ⟨_, _, h2, .inl ⟨rfl, i, h1⟩⟩
theorem aft_old {b o : Nat} (hb : b < w.heap.size) {q : Own} (h : g.who b o = q) (hq : ∀ s x, q = .obj s x → ¬ Handed os s x) : (gAft w g gc' os d G).who b o = q := by
  simp only [gAft]
  rw [if_pos hb, h]
  cases q with
  | obj s x => simp only; rw [if_neg (hq s x rfl)]
  | _ => rfl
theorem mem_boxAt {os : List Out} {s : Nat} (h : s ∈ boxesIn os) : ∃ i, BoxAt os i s := by
  induction os with
  | nil => simp [boxesIn] at h
  | cons y os ih =>
    have up : (∃ i, BoxAt os i s) → ∃ i, BoxAt (y :: os) i s := fun ⟨i, o, h1, h2⟩ => ⟨i + 1, o, by simpa using h1, h2⟩
    simp only [boxesIn] at h
    cases hy : y.box with
    | none => rw [hy] at h; exact up (ih h)
    | some s' =>
      rw [hy] at h
      rcases List.mem_cons.mp h with rfl | h
      · exact ⟨0, y, rfl, hy⟩
      · exact up (ih h)
theorem aft_ga : GA w g (gAft w g gc' os d G) fun s x => (s = d ∧ G = true) ∨ (s ∈ boxesIn os ∧ x ≠ none) := by
  refine ⟨fun b o hb h => aft_old hb h (fun s x e => by cases e), fun b o hb h => aft_old hb h (fun s x e => by cases e), fun s j h => ?_, fun s _ => rfl⟩
  refine aft_hs_old (fun e => h (.inl e)) fun i hb => h (.inr ⟨boxAt_mem hb, by simp⟩)
theorem aft_inv (hg : CG lend g gc os) (hi : Inv w gc w' gc') : Inv w g w' (gAft w g gc' os d G) :=
  ⟨(aft_chg hg hi).mono fun _ _ _ ⟨s, x, h, _⟩ => ⟨s, x, h⟩, fun b o hb h => aft_old hb h (fun s x e => by cases e), fun b o hb h => aft_old hb h (fun s x e => by cases e),
    fun b o hb h => aft_old hb h (fun s x e => by cases e), fun _ _ => rfl⟩

/-- What a call has done. -/
theorem call_ok {sg : Sig} {r : sg.den} {v : Value} {rs : List (Nat × Root)} (hg : CG lend g gc os) (hn : (boxesIn os).Nodup) (hi : Inv w gc w' gc') (hr : ResOK elid w' gc' sg r v)
    (hlend : lend = true → os = [] ∧ sg.lends = true)
    (hrs : ∀ s q, look s rs = some q → (∃ i, BoxAt os i s ∧ (i, q.cs) ∈ Backs.cells sg.back (sg.back1 r) ∧ q.box = true) ∨
      (RepR elid w g s q ∧ (∀ i, ¬ BoxAt os i s) ∧ ∀ i p j, SrcAt os i p s j → ∀ t fz xs, q.cs[j]? ≠ some (.sl t fz xs)))
    (hG : G = hasOwn (RKs.inj d 0 sg.res (sg.res1 r)).2) :
    StepOK elid w g w' (gAft w g gc' os d G) d (valOf (RKs.inj d 0 sg.res (sg.res1 r)).1) v (bif G then some ⟨false, (RKs.inj d 0 sg.res (sg.res1 r)).2⟩ else none) rs (boxesIn os) := by
  have hga := aft_ga (w := w) (g := g) (gc' := gc') (os := os) (d := d) (G := G)
  have hchg := aft_chg hg hi
  have hM : ∀ b o, b < w.heap.size → (∃ s x, g.who b o = .obj s x ∧ Handed os s x) → ∃ s x, g.who b o = .obj s x := fun _ _ _ ⟨s, x, h, _⟩ => ⟨s, x, h⟩
  -- results that lend
  have hdull : lend = true → (∀ a ∈ (RKs.inj d 0 sg.res (sg.res1 r)).1, Dull a) ∧ G = false ∧ (RKs.inj d 0 sg.res (sg.res1 r)).1 = (RKs.inj 0 0 sg.res (sg.res1 r)).1 ∧ sg.back = [] := by
    intro hl
    obtain ⟨_, h⟩ := hlend hl
    simp only [Sig.lends, Bool.and_eq_true, List.isEmpty_iff] at h
    obtain ⟨q1, q2, q3⟩ := RKs.dull d 0 sg.res (sg.res1 r) (by
      rw [← h.2]
      congr 1)
    exact ⟨q1, by rw [hG]; exact q2, q3, h.1⟩
  -- the roots
  have hroots : ∀ s q, look s rs = some q → ¬ (s = d ∧ G = true) → ∀ k : List Cell → List Cell, (∀ cs, ∀ {j : Nat} {t : El} {fz : Bool} {xs : List t.den}, (k cs)[j]? = some (Cell.sl t fz xs) ↔ cs[j]? = some (Cell.sl t fz xs)) →
      (∀ cs b, Cell.av b ∈ k (killBs (boxesIn os) cs) → Avoids (fun s x => (s = d ∧ G = true) ∨ (s ∈ boxesIn os ∧ x ≠ none)) b) →
      (∀ {w : World} {g : Gh} {b cs}, RepR elid w g s ⟨b, cs⟩ → RepR elid w g s ⟨b, k cs⟩) → RepR elid w' (gAft w g gc' os d G) s ⟨q.box, k (killBs (boxesIn os) q.cs)⟩ := by
    intro s q hq hsd k hk hka hkr
    rcases hrs s q hq with ⟨i, hb, hm, hbox⟩ | ⟨hR, hnb, hns⟩
    · -- a box that came back
      have hf : lend = false := by
        cases hl : lend with
        | false => rfl
        | true => obtain ⟨_, h⟩ := hb; rw [(hlend hl).1] at h; simp at h
      have hR := hr.back i _ hm
      have hpl := Backs.plain _ _ i _ hm
      rw [hbox]
      refine hkr (RepR.killBs _ ?_)
      refine ⟨fun h => (by cases h), fun _ => ?_⟩
      obtain ⟨vals, hv⟩ := hR.box rfl
      refine ⟨vals, fun j hj => ?_⟩
      obtain ⟨h1, h2, h3, h4, h5⟩ := hv j hj
      have ehb : gc'.hb (1000 + i) = g.hb s := (hi.hb _ (by omega)).trans (hg.hb i s hb)
      rw [ehb] at h1 h2 h3 h4
      refine ⟨h1, ?_, h3, h4, ?_⟩
      · show (gAft w g gc' os d G).who (g.hb s).1 ((g.hb s).2 + j) = _
        rw [aft_who hg hi hf h2 (.inr ⟨_, _, rfl⟩)]
        exact backO_box hb none
      · have key : ∀ c v, q.cs[j] = c → RepC elid w' gc' (1000 + i) j c v → RepC elid w' (gAft w g gc' os d G) s j c v := by
          intro c v hc h
          cases h with
          | av b v h => exact .av b v (h.plain (aft_imm hg hi hf) (hpl _ (by rw [← hc]; exact List.getElem_mem hj) b rfl))
          | sl t fz xs h =>
            have e := aft_hs_box (w := w) (g := g) (gc' := gc') hn hb hsd j
            rw [← e]
            exact .sl t fz xs (h.aft hg hi hf e (backO_box hb))
        exact key _ _ rfl h5
    · refine RepR.pres2 hchg hga (r := ⟨q.box, k (killBs (boxesIn os) q.cs)⟩) ?_ ?_ ?_ ?_ (hkr (RepR.killBs _ hR))
      · rintro b o _ ⟨s', x, e, hh⟩
        refine ⟨s', x, e, ?_⟩
        by_cases hss : s' = s
        · subst hss
          rcases hh with ⟨_, i, h⟩ | ⟨i, p, j, rfl, h⟩
          · exact absurd h (hnb i)
          · refine .inr ⟨j, rfl, fun t fz xs e2 => ?_⟩
            exact hns i p j h t fz xs ((killBs_sl _).1 ((hk _).1 e2))
        · exact .inl hss
      · intro b o x hb e hx
        refine aft_old hb e fun s' x' e' => ?_
        cases e'
        rintro (⟨_, i, h⟩ | ⟨i, p, j, rfl, h⟩)
        · exact hnb i h
        · obtain ⟨t, fz, xs, e2⟩ := hx j rfl
          exact hns i p j h t fz xs ((killBs_sl _).1 ((hk _).1 e2))
      · rintro x (h | ⟨h, _⟩)
        · exact hsd h
        · have : ∃ i, BoxAt os i s := by
            exact mem_boxAt h
          obtain ⟨i, hi⟩ := this
          exact hnb i hi
      · exact fun b hb => hka _ b hb
  refine ⟨aft_inv hg hi, ?_, ?_, ?_, ?_, ?_⟩
  · intro b u hb hd hks
    refine hb.pres hchg hM hga ?_
    cases hGv : G with
    | false =>
      refine hks.mono fun s x h => ?_
      rcases h with ⟨_, h⟩ | h
      · cases h
      · exact h
    | true =>
      rw [hGv] at hd
      rcases hd with h | h
      · cases h
      · refine h.or hks fun s x h => ?_
        rcases h with ⟨h, _⟩ | h
        · exact .inl h
        · exact .inr h
  · cases hl : lend with
    | true =>
      obtain ⟨h1, _, h3, _⟩ := hdull hl
      have := hr.val
      rw [← h3] at this
      exact valOf_dull h1 this
    | false =>
      refine (valOf_rn (RKs.rn 0 sg.res (sg.res1 r) (d := d) (G := G) fun h => hG.trans h)).rep (aft_imm hg hi hl) (fun hGt j => ?_) hr.val
      simp [gAft, hGt]
  · intro hnone s q hq
    have hGf : G = false := by
      cases hGv : G with
      | false => rfl
      | true => rw [hGv] at hnone; cases hnone
    refine hroots s q hq (by rw [hGf]; simp) id (fun _ => Iff.rfl) (fun cs b hb => ?_) (fun h => h)
    obtain ⟨c, _, rfl⟩ := mem_killBs _ hb
    refine (killBs_avoids (boxesIn os) c).mono fun s x h => ?_
    rcases h with ⟨_, h⟩ | h
    · rw [hGf] at h; cases h
    · exact h
  · intro _ s q hq hsd
    refine hroots s q hq (fun h => hsd h.1) (killC d) (fun _ => killC_sl) (fun cs b hb => ?_) (fun h => h.kill d)
    have h1 := mem_killC hb
    have h2 : ∃ c, Cell.av c ∈ killBs (boxesIn os) cs ∧ b = c.kill d := by
      clear h1
      generalize killBs (boxesIn os) cs = l at hb
      induction l with
      | nil => simp [killC] at hb
      | cons c l ih =>
        simp only [killC, List.mem_cons] at hb
        rcases hb with h | h
        · cases c with
          | av a => simp only [Cell.kill, Cell.av.injEq] at h; exact ⟨a, by simp, h⟩
          | sl t fz xs => simp [Cell.kill] at h
        · obtain ⟨c', q1, q2⟩ := ih h; exact ⟨c', List.mem_cons_of_mem _ q1, q2⟩
    obtain ⟨c, h3, rfl⟩ := h2
    obtain ⟨c', _, rfl⟩ := mem_killBs _ h3
    refine h1.or ((killBs_avoids (boxesIn os) c').kill d) fun s x h => ?_
    rcases h with ⟨h, _⟩ | h
    · exact .inl h
    · exact .inr h
  · intro q hq
    have hGt : G = true := by
      cases hGv : G with
      | true => rfl
      | false => rw [hGv] at hq; cases hq
    have hf : lend = false := by
      cases hl : lend with
      | false => rfl
      | true => rw [(hdull hl).2.1] at hGt; cases hGt
    rw [hGt] at hq
    cases hq
    refine RepR.kill d (r := ⟨false, _⟩) ⟨fun _ j t fz xs hj => ?_, fun h => by cases h⟩
    have hj' : (RKs.inj 0 0 sg.res (sg.res1 r)).2[j]? = some (.sl t fz xs) := by rw [← RKs.inj_two d 0 0]; exact hj
    refine (hr.own.apart rfl j t fz xs hj').aft hg hi hf ?_ ?_
    · simp [gAft, hGt]
    · intro x; rw [hGt]; exact backO_zero x
end

end
end Go.Proofs.YtppmpfddcohkjaaA
