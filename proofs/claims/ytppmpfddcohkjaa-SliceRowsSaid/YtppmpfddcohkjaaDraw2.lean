/- Regions that draw their order: whatever the order is, the answer is that of the text. -/
import Derived.Test.YtppmpfddcohkjaaDraw1
namespace Go.Proofs.YtppmpfddcohkjaaA
open Go

section
variable {elid : El → Nat} {n : Nat} {w w' w'' : World} {g g' g'' : Gh} {S S' : St} {a : Act} {P : Program}

/-! ### States with some values forgotten -/
open Classical in
noncomputable def mask (U : Nat → Prop) (S : St) : St := ⟨S.tmps.map fun p => (p.1, if U p.1 then .und else p.2), S.roots⟩
open Classical in
theorem tmp_mask (U : Nat → Prop) (S : St) (t : Nat) : (mask U S).tmp t = if U t then .und else S.tmp t := by
  unfold St.tmp mask
  simp only
  have key : ∀ l : List (Nat × AV), look t (l.map fun p => (p.1, if U p.1 then AV.und else p.2)) = (look t l).map fun b => if U t then AV.und else b := by
    intro l
    induction l with
    | nil => rfl
    | cons p l ih =>
      obtain ⟨i, b⟩ := p
      simp only [List.map_cons, look]
      cases e : Nat.beq i t with
      | true => rw [← Nat.eq_of_beq_eq_true e]; rfl
      | false => simpa using ih
  rw [key]
  cases look t S.tmps with
  | none => simp
  | some b => rfl

/-- A state behind an operation that leaves alone what is owned, and gains nothing. -/
theorem Rel.quiet_none (hS : Rel elid n w g S a) {o : Oper} {av : AV} {v : Value} {d : Nat} (hd : ∀ d, o.dst = some d → d < n) (hq : Quiet w g w' g' d) (hv : RepA w' g' av v) (hn : g'.hs = g.hs ∧ g'.hb = g.hb)
    (htm : ∀ t, S'.tmp t = if o.dst = some t then av else S.tmp t) (hrt : S'.roots = S.roots) : Rel elid n w' g' S' (a.put o.dst v) := by
  have hsz : ∀ d, o.dst = some d → d < a.tmps.size := fun d e => by rw [hS.size]; exact hd d e
  have hga : GA w g g' fun _ _ => False := ⟨hq.gch.imm, hq.gch.bor, fun _ _ _ => by rw [hn.1], fun _ _ => by rw [hn.2]⟩
  refine ⟨by rw [size_put]; exact hS.size, by rw [defers_put]; exact hS.df, fun t => ?_, fun s r hr => ?_⟩
  · rw [htm, getD_put _ _ _ hsz]
    by_cases e : o.dst = some t
    · rw [if_pos e, if_pos e]; exact hv
    · rw [if_neg e, if_neg e]
      exact (hS.tm t).pres hq.chg (fun _ _ _ h => h.elim) hga (avoids_none _)
  · rw [root_congr hrt] at hr
    exact (hS.rt s r hr).pres (M := fun _ _ => False) (hq.chg.mono fun _ _ _ h => h.elim) hga (fun _ _ _ h => h.elim) (fun b o x hb e => (hq.who b o hb).trans e) (fun _ h => h) (fun b _ => avoids_none b)
theorem RepR.quiet {d s : Nat} {r : Root} (hq : Quiet w g w' g' d) (h : RepR elid w g s r) (hs : s ≠ d) (hn : ∀ b, Cell.av b ∈ r.cs → b.names d = false) : RepR elid w' g' s r :=
  h.pres (M := fun _ _ => False) (hq.chg.mono fun _ _ _ h => h.elim) hq.gch.ga (fun _ _ _ h => h.elim) (fun b o x hb e => (hq.who b o hb).trans e) (fun _ => hs) (fun b hb => avoids_of_names d b (hn b hb))
theorem RepR.quiet_none {d s : Nat} {r : Root} (hq : Quiet w g w' g' d) (hn : g'.hs = g.hs ∧ g'.hb = g.hb) (h : RepR elid w g s r) : RepR elid w' g' s r :=
  h.pres (M := fun _ _ => False) (N := fun _ _ => False) (hq.chg.mono fun _ _ _ h => h.elim) ⟨hq.gch.imm, hq.gch.bor, fun _ _ _ => by rw [hn.1], fun _ _ => by rw [hn.2]⟩ (fun _ _ _ h => h.elim) (fun b o x hb e => (hq.who b o hb).trans e) (fun _ h => h) (fun b _ => avoids_none b)
/-- A state behind an operation that leaves alone what is owned, and gains something (told apart). -/
theorem Rel.quiet_some (hS : Rel elid n w g S a) {o : Oper} {av : AV} {v : Value} {d : Nat} (ho : o.dst = some d) (hd : d < n) (hq : Quiet w g w' g' d) (hv : RepA w' g' av v)
    (htm : ∀ t, S'.tmp t = if o.dst = some t then av else S.tmp t) (hrt : S'.roots = S.roots) (hna : ∀ t, t ≠ d → (S.tmp t).names d = false) (hnr : ∀ s r, S.root s = some r → s ≠ d ∧ ∀ b, Cell.av b ∈ r.cs → b.names d = false) :
    Rel elid n w' g' S' (a.put o.dst v) := by
  have hsz : ∀ d, o.dst = some d → d < a.tmps.size := fun d' e => by rw [hS.size]; rw [ho] at e; cases e; exact hd
  refine ⟨by rw [size_put]; exact hS.size, by rw [defers_put]; exact hS.df, fun t => ?_, fun s r hr => ?_⟩
  · rw [htm, getD_put _ _ _ hsz]
    by_cases e : o.dst = some t
    · rw [if_pos e, if_pos e]; exact hv
    · rw [if_neg e, if_neg e]
      exact (hS.tm t).quiet hq (avoids_of_names d _ (hna t fun h => e (by rw [ho, h])))
  · rw [root_congr hrt] at hr
    exact (hS.rt s r hr).quiet hq (hnr s r hr).1 (hnr s r hr).2
theorem Rel.frz {d : Nat} (hS : Rel elid n w g S a) (hf : Frz g g' d) (hnr : S.root d = none) : Rel elid n w g' S a :=
  ⟨hS.size, hS.df, fun t => (hS.tm t).frz hf, fun s r hr => (hS.rt s r hr).frz hf fun e => by subst e; rw [hnr] at hr; cases hr⟩

theorem tmp_addRoots : ∀ (l : List (Nat × Root)) (S : St), (addRoots S l).tmp = S.tmp
  | [], _ => rfl
  | (d, r) :: l, S => by simp only [addRoots]; rw [tmp_addRoots l]; rfl
theorem root_addRoots : ∀ (l : List (Nat × Root)) (S : St) {s : Nat} {r : Root}, (addRoots S l).root s = some r → (s, r) ∈ l ∨ S.root s = some r
  | [], _, _, _, h => .inr h
  | (d, q) :: l, S, s, r, h => by
    simp only [addRoots] at h
    rcases root_addRoots l _ h with h | h
    · exact .inl (List.mem_cons_of_mem _ h)
    · rw [root_setRoot] at h
      by_cases e : s = d
      · subst e; rw [if_pos rfl] at h; cases h; exact .inl List.mem_cons_self
      · rw [if_neg e] at h; exact .inr h

/-! ### A region's run in the order of the text -/
structure DR {R : Type} (P : Program) (elid : El → Nat) (E : Env) (lv : Lv E.sig) (fz : Nat → Bool) (arr : Array Oper) (n : Nat) (S0 : St) (κ : St → Option R) (r : R) (st : Nat → St) (nws : Nat → List (Nat × Root)) (m : Nat) (lt : Nat → St) : Prop where
  hE : ∀ T i, E.ty T = some i → TyOK P elid T i
  hlv : LvOK P elid E.sig lv
  hn : n ≤ 1000
  hdst : dstsIn n arr.toList = true
  he : edgesOk 0 arr.toList = true
  hd : dstsOk arr.toList = true
  hw : warOk arr.toList (quietPre E.pks arr.toList) = true
  hp : pairsOk E.pks arr.toList (befores arr.toList []) 0 arr.toList = true
  hf : freshAll S0 arr.toList = true
  st0 : st 0 = S0
  nw0 : nws 0 = []
  hm : m ≤ arr.toList.length
  q : ∀ k o, k < m → arr.toList[k]? = some o → quietOp E.pks o = true ∧ QStep E lv fz arr.toList ((befores arr.toList []).getD k 0) o (st k) (nws k) (st (k + 1)) (nws (k + 1))
  lt0 : lt m = addRoots (st m) (nws m)
  l : ∀ k o, m ≤ k → arr.toList[k]? = some o → LStep E lv fz arr.toList o (lt k) (lt (k + 1))
  nq : m < arr.toList.length → ∃ o, arr.toList[m]? = some o ∧ quietOp E.pks o = false
  calm : ∀ k o, k < m → arr.toList[k]? = some o → loadOp o = true → (∀ j, m ≤ j → j < arr.toList.length → Bit arr.toList k j) ∨
    ∀ av rt, stepQ E lv o (st k) q0 = some (av, rt) → ∀ j, m ≤ j → j ≤ arr.toList.length → ∀ S', (∀ x ∈ o.op.operands, S'.ev x = (st k).ev x) → S'.roots = (lt j).roots → stepQ E lv o S' q0 = some (av, none)
  fin : κ (lt arr.toList.length) = some r

section
variable {R : Type} {E : Env} {lv : Lv E.sig} {fz : Nat → Bool} {arr : Array Oper} {S0 : St} {κ : St → Option R} {r : R} {st : Nat → St} {nws : Nat → List (Nat × Root)} {m : Nat} {lt : Nat → St}

theorem DR.op (_h : DR P elid E lv fz arr n S0 κ r st nws m lt) {k : Nat} (hk : k < arr.toList.length) : ∃ o, arr.toList[k]? = some o := ⟨_, List.getElem?_eq_getElem hk⟩
theorem DR.st_roots (h : DR P elid E lv fz arr n S0 κ r st nws m lt) : ∀ k, k ≤ m → (st k).roots = S0.roots
  | 0, _ => by rw [h.st0]
  | k + 1, hk => by
    obtain ⟨o, ho⟩ := h.op (k := k) (by have := h.hm; omega)
    rw [(h.q k o (by omega) ho).2.roots]
    exact h.st_roots k (by omega)
theorem DR.st_keep (h : DR P elid E lv fz arr n S0 κ r st nws m lt) {j t : Nat} : ∀ k, j ≤ k → k ≤ m → (∀ i o, j ≤ i → i < k → arr.toList[i]? = some o → o.dst ≠ some t) → (st k).tmp t = (st j).tmp t
  | 0, hj, _, _ => by have : j = 0 := by omega
                      rw [this]
  | k + 1, hj, hk, hno => by
    by_cases e : j = k + 1
    · rw [e]
    · obtain ⟨o, ho⟩ := h.op (k := k) (by have := h.hm; omega)
      rw [(h.q k o (by omega) ho).2.tm t (hno k o (by omega) (by omega) ho)]
      exact h.st_keep k (by omega) (by omega) fun i o h1 h2 => hno i o h1 (by omega)
theorem DR.lt_keep (h : DR P elid E lv fz arr n S0 κ r st nws m lt) {j t : Nat} (hmj : m ≤ j) : ∀ k, j ≤ k → k ≤ arr.toList.length → (∀ i o, j ≤ i → i < k → arr.toList[i]? = some o → o.dst ≠ some t) → (lt k).tmp t = (lt j).tmp t
  | 0, hj, _, _ => by have : j = 0 := by omega
                      rw [this]
  | k + 1, hj, hk, hno => by
    by_cases e : j = k + 1
    · rw [e]
    · obtain ⟨o, ho⟩ := h.op (k := k) (by omega)
      rw [(h.l k o (by omega) ho).tm t (hno k o (by omega) (by omega) ho)]
      exact h.lt_keep hmj k (by omega) (by omega) fun i o h1 h2 => hno i o h1 (by omega)
theorem DR.lt_m (h : DR P elid E lv fz arr n S0 κ r st nws m lt) (t : Nat) : (lt m).tmp t = (st m).tmp t := by rw [h.lt0, tmp_addRoots]
theorem DR.uniq (h : DR P elid E lv fz arr n S0 κ r st nws m lt) {i j : Nat} {x y : Oper} {d : Nat} (hx : arr.toList[i]? = some x) (hy : arr.toList[j]? = some y) (hxd : x.dst = some d) (hyd : y.dst = some d) : i = j :=
  dstsOk_spec h.hd i j x y d hx hy hxd hyd
theorem DR.dlt (h : DR P elid E lv fz arr n S0 κ r st nws m lt) {i : Nat} {x : Oper} (hx : arr.toList[i]? = some x) : ∀ d, x.dst = some d → d < n := fun _ hd => dstsIn_mem h.hdst (List.mem_of_getElem? hx) hd
/-- The value of a quiet operation's slot behind the quiet ones. -/
theorem DR.st_val (h : DR P elid E lv fz arr n S0 κ r st nws m lt) {i k : Nat} {x : Oper} {d : Nat} (hx : arr.toList[i]? = some x) (hd : x.dst = some d) (hik : i < k) (hk : k ≤ m) : (st k).tmp d = (st (i + 1)).tmp d :=
  h.st_keep k (by omega) hk fun j o h1 h2 ho e => by have := h.uniq hx ho hd e; omega
theorem DR.pair (h : DR P elid E lv fz arr n S0 κ r st nws m lt) {i j : Nat} {x y : Oper} (hx : arr.toList[i]? = some x) (hy : arr.toList[j]? = some y) (hij : i < j) : Bit arr.toList i j ∨ (apartOp arr.toList x y = true ∧ freeOp E.pks arr.toList i j x = true) := by
  have := pairsOk_spec h.hp j i x y hy (by omega) hx
  rwa [Nat.zero_add] at this

/-- A slot of a quiet operation that isn't done. -/
def Undone (arr : Array Oper) (m : Nat) (D : Nat → Prop) (t : Nat) : Prop := ∃ k o, k < m ∧ arr.toList[k]? = some o ∧ o.dst = some t ∧ ¬ D k
theorem quietPre_get {pks : FuncId → List PK} : ∀ {l : List Oper} {k : Nat}, (∀ i o, i ≤ k → l[i]? = some o → quietOp pks o = true) → (quietPre pks l)[k]? = l[k]?
  | [], _, _ => rfl
  | o :: l, 0, h => by
    simp only [quietPre, h 0 o (Nat.le_refl _) rfl, cond, List.getElem?_cons_zero]
  | o :: l, k + 1, h => by
    simp only [quietPre, h 0 o (by omega) rfl, cond, List.getElem?_cons_succ]
    exact quietPre_get fun i o' hi ho => h (i + 1) o' (by omega) (by simpa using ho)
def With (D : Nat → Prop) (i : Nat) (k : Nat) : Prop := k = i ∨ D k

theorem DR.undone_with (h : DR P elid E lv fz arr n S0 κ r st nws m lt) {D : Nat → Prop} {i : Nat} {o : Oper} (ho : arr.toList[i]? = some o) (t : Nat) : Undone arr m (With D i) t ↔ Undone arr m D t ∧ o.dst ≠ some t := by
  constructor
  · rintro ⟨k, x, h0, h1, h2, h3⟩
    refine ⟨⟨k, x, h0, h1, h2, fun hd => h3 (.inr hd)⟩, fun e => h3 (.inl (h.uniq h1 ho h2 e))⟩
  · rintro ⟨⟨k, x, h0, h1, h2, h3⟩, h4⟩
    refine ⟨k, x, h0, h1, h2, ?_⟩
    rintro (rfl | hd)
    · rw [ho] at h1; cases h1; exact h4 h2
    · exact h3 hd

theorem DR.war (h : DR P elid E lv fz arr n S0 κ r st nws m lt) {i k : Nat} {o x : Oper} {t : Nat} (hik : i ≤ k) (hkm : k < m) (ho : arr.toList[i]? = some o) (hx : arr.toList[k]? = some x) (hd : x.dst = some t) : t ∉ looksOf arr.toList o := by
  have hq : ∀ j, j < m → (quietPre E.pks arr.toList)[j]? = arr.toList[j]? := fun j hj => quietPre_get fun i o hi ho => (h.q i o (by omega) ho).1
  exact warOk_spec h.hw i k o x t hik (by rw [hq i (by omega)]; exact ho) (by rw [hq k hkm]; exact hx) hd
/-- What an operation looks at is done, or is no slot of the region's. -/
theorem DR.looks (h : DR P elid E lv fz arr n S0 κ r st nws m lt) {D : Nat → Prop} {i : Nat} {o : Oper} (ho : arr.toList[i]? = some o) (hr : ∀ k, Bit arr.toList k i → D k) {t : Nat} (ht : t ∈ looksOf arr.toList o) : ¬ Undone arr m D t := by
  rintro ⟨k, x, h0, h1, h2, h3⟩
  by_cases hik : i ≤ k
  · exact h.war hik h0 ho h1 h2 ht
  · rcases h.pair h1 ho (by omega) with hb | ⟨hb, _⟩
    · exact h3 (hr k hb)
    · exact (apartOp_spec hb).1 t h2 ht
theorem DR.no_later (h : DR P elid E lv fz arr n S0 κ r st nws m lt) {i : Nat} {o : Oper} (ho : arr.toList[i]? = some o) {t : Nat} (ht : t ∈ looksOf arr.toList o) : ∀ k x, i ≤ k → k < m → arr.toList[k]? = some x → x.dst ≠ some t :=
  fun _ _ hik hkm hx e => h.war hik hkm ho hx e ht
theorem looks_operand {ops : List Oper} {o : Oper} {t : Nat} (h : Operand.tmp t ∈ o.op.operands) : t ∈ looksOf ops o :=
  List.mem_append_left _ (List.mem_filterMap.2 ⟨.tmp t, by simpa using h, rfl⟩)
theorem looks_guard {ops : List Oper} {o : Oper} {j : Nat} {want : Bool} {t : Nat} (hg : o.guard = some (j, want)) (h : (ops[j]?).bind (·.dst) = some t) : t ∈ looksOf ops o := by
  refine List.mem_append_right _ ?_
  rw [hg]
  simp only [h, List.mem_singleton]
theorem ev_looks {ops : List Oper} {o : Oper} {S S' : St} (h : ∀ t ∈ looksOf ops o, S'.tmp t = S.tmp t) : ∀ x ∈ o.op.operands, S'.ev x = S.ev x := by
  intro x hx
  cases x with
  | tmp t => exact h t (looks_operand hx)
  | _ => rfl
theorem Wants.looks {ops : List Oper} {o : Oper} {S S' : St} (h : ∀ t ∈ looksOf ops o, S'.tmp t = S.tmp t) (hw : Wants ops o S) : Wants ops o S' :=
  fun j want e => let ⟨t, h1, h2⟩ := hw j want e; ⟨t, h1, (h t (looks_guard e h1)).trans h2⟩
theorem Wants.not_looks {ops : List Oper} {o : Oper} {S S' : St} (h : ∀ t ∈ looksOf ops o, S'.tmp t = S.tmp t) (hw : Wants.not ops o S) : Wants.not ops o S' :=
  let ⟨j, want, t, h0, h1, h2⟩ := hw; ⟨j, want, t, h0, h1, by rw [h t (looks_guard h0 h1)]; exact h2⟩

def Gains (arr : Array Oper) (nws : Nat → List (Nat × Root)) (m i d : Nat) (q : Root) : Prop := ∃ o, arr.toList[i]? = some o ∧ i < m ∧ o.dst = some d ∧ nws (i + 1) = (d, q) :: nws i

/-- Before the first of the others. -/
structure P1 (elid : El → Nat) (arr : Array Oper) (n : Nat) (st : Nat → St) (nws : Nat → List (Nat × Root)) (m : Nat) (D : Nat → Prop) (w : World) (g : Gh) (a : Act) : Prop where
  rel : Rel elid n w g (mask (Undone arr m D) (st m)) a
  new : ∀ i d q, D i → Gains arr nws m i d q → RepR elid w g d q
  lo : ∀ k, D k → k < m
/-- Behind the first of the others. -/
structure P2 (elid : El → Nat) (arr : Array Oper) (n : Nat) (m : Nat) (lt : Nat → St) (D : Nat → Prop) (j : Nat) (w : World) (g : Gh) (a : Act) : Prop where
  mj : m < j
  jn : j ≤ arr.toList.length
  rel : Rel elid n w g (mask (Undone arr m D) (lt j)) a
  late : ∀ k, m ≤ k → (D k ↔ k < j)
  nb : ∀ k o, k < m → arr.toList[k]? = some o → calmOp o = false → D k

open Classical in
theorem DR.mask_with (h : DR P elid E lv fz arr n S0 κ r st nws m lt) {D : Nat → Prop} {i : Nat} {o : Oper} (ho : arr.toList[i]? = some o) {B : St} {av : AV} (hB : ∀ d, o.dst = some d → B.tmp d = av) (t : Nat) :
    (mask (Undone arr m (With D i)) B).tmp t = if o.dst = some t then av else (mask (Undone arr m D) B).tmp t := by
  rw [tmp_mask, tmp_mask]
  by_cases e : o.dst = some t
  · rw [if_neg (fun hu => ((h.undone_with ho t).1 hu).2 e), if_pos e]; exact hB t e
  · rw [if_neg e]
    by_cases hu : Undone arr m D t
    · rw [if_pos hu, if_pos ((h.undone_with ho t).2 ⟨hu, e⟩)]
    · rw [if_neg hu, if_neg fun h' => hu ((h.undone_with ho t).1 h').1]

theorem wpOp_wanted {P : Program} {arr : Array Oper} {Q : Exit → Act → World → Prop} {i : Nat} {K : Act → World → Prop} {o : Oper} (ho : arr.toList[i]? = some o) (hw : Region.wanted o (yielded arr a.tmps) = true) (h : o.wp P a w K Q) : wpOp P arr Q i K a w := by
  have hai : arr[i]? = some o := by simpa using ho
  unfold wpOp
  rw [hai]
  simp only
  rw [if_pos hw]
  exact .inl h
theorem wpOp_not {P : Program} {arr : Array Oper} {Q : Exit → Act → World → Prop} {i : Nat} {K : Act → World → Prop} {o : Oper} (ho : arr.toList[i]? = some o) (hw : Region.wanted o (yielded arr a.tmps) = false) (h : K (a.put o.dst undef) w) : wpOp P arr Q i K a w := by
  have hai : arr[i]? = some o := by simpa using ho
  unfold wpOp
  rw [hai]
  simp only
  rw [if_neg (by rw [hw]; simp)]
  exact h

/-- What a quiet operation has computed says of no later gain, and so on. -/
theorem DR.gains_at (h : DR P elid E lv fz arr n S0 κ r st nws m lt) {k : Nat} : ∀ i, i ≤ m → ∀ p ∈ nws i, ∃ j, j < i ∧ Gains arr nws m j p.1 p.2
  | 0, _, p, hp => by rw [h.nw0] at hp; simp at hp
  | i + 1, hi, p, hp => by
    obtain ⟨o, ho⟩ := h.op (k := i) (by have := h.hm; omega)
    have hq := (h.q i o (by omega) ho).2
    have old : p ∈ nws i → ∃ j, j < i + 1 ∧ Gains arr nws m j p.1 p.2 := fun hp => let ⟨j, h1, h2⟩ := h.gains_at (k := k) i (by omega) p hp; ⟨j, by omega, h2⟩
    rcases hq.done with ⟨_, av, rt, _, _, _, (⟨_, e⟩ | ⟨q, d, _, hd, e, _⟩)⟩ | ⟨_, _, e⟩
    · rw [e] at hp; exact old hp
    · rw [e] at hp
      rcases List.mem_cons.mp hp with rfl | hp
      · exact ⟨i, by omega, o, ho, by omega, hd, e⟩
      · exact old hp
    · rw [e] at hp; exact old hp
theorem DR.gains_mem (h : DR P elid E lv fz arr n S0 κ r st nws m lt) {j d : Nat} {q : Root} (hg : Gains arr nws m j d q) : ∀ i, j < i → i ≤ m → (d, q) ∈ nws i
  | 0, hj, _ => by omega
  | i + 1, hj, hi => by
    obtain ⟨o', ho', hjm, hd, e⟩ := hg
    by_cases hji : j = i
    · subst hji; rw [e]; exact List.mem_cons_self
    · have ih := h.gains_mem ⟨o', ho', hjm, hd, e⟩ i (by omega) (by omega)
      obtain ⟨o, ho⟩ := h.op (k := i) (by have := h.hm; omega)
      have hq := (h.q i o (by omega) ho).2
      rcases hq.done with ⟨_, av, rt, _, _, _, (⟨_, e⟩ | ⟨q', d', _, _, e, _⟩)⟩ | ⟨_, _, e⟩
      · rw [e]; exact ih
      · rw [e]; exact List.mem_cons_of_mem _ ih
      · rw [e]; exact ih

theorem frzR_names {fz : Nat → Bool} {d' d : Nat} {q : Root} (h : ∀ c, Cell.av c ∈ q.cs → c.names d = false) : ∀ c, Cell.av c ∈ (frzR fz d' q).cs → c.names d = false := by
  intro c hc
  simp only [frzR] at hc
  have hk : ∀ (l : List Cell), Cell.av c ∈ killC d' l → ∃ b, Cell.av b ∈ l ∧ c = b.kill d' := by
    intro l
    induction l with
    | nil => intro h; simp [killC] at h
    | cons x l ih =>
      intro h
      simp only [killC, List.mem_cons] at h
      rcases h with h | h
      · cases x with
        | av a => simp only [Cell.kill, Cell.av.injEq] at h; exact ⟨a, by simp, h⟩
        | sl t fz xs => simp [Cell.kill] at h
      · obtain ⟨b, h1, h2⟩ := ih h; exact ⟨b, List.mem_cons_of_mem _ h1, h2⟩
  have hf : ∀ (z : Bool) (l : List Cell) (b : AV), Cell.av b ∈ frzC z l → Cell.av b ∈ l := by
    intro z l
    induction l with
    | nil => intro b h; simp [frzC] at h
    | cons x l ih =>
      intro b h
      cases x with
      | av a =>
        simp only [frzC, List.mem_cons] at h ⊢
        rcases h with h | h
        · exact .inl h
        · exact .inr (ih b h)
      | sl t f xs =>
        simp only [frzC, List.mem_cons] at h ⊢
        rcases h with h | h
        · cases h
        · exact .inr (ih b h)
  obtain ⟨b, h1, rfl⟩ := hk _ hc
  have := h b (hf _ _ _ h1)
  unfold AV.kill
  cases b.names d' with
  | true => simp [AV.names]
  | false => exact this

/-- A quiet operation, ahead of the others. -/
theorem DR.step1 (h : DR P elid E lv fz arr n S0 κ r st nws m lt) {D : Nat → Prop} (hc : Closed arr.toList D) {i : Nat} {o : Oper} (ho : arr.toList[i]? = some o) (him : i < m) (hnd : ¬ D i) (hr : ∀ k, Bit arr.toList k i → D k)
    (h1 : P1 elid arr n st nws m D w g a) {Q : Exit → Act → World → Prop} {K : Act → World → Prop} (hK : ∀ w' g' a', Inv w g w' g' → P1 elid arr n st nws m (With D i) w' g' a' → K a' w') : wpOp P arr Q i K a w := by
  obtain ⟨hquiet, hq⟩ := h.q i o him ho
  have hdn := h.dlt ho
  have hlook : ∀ t ∈ looksOf arr.toList o, (mask (Undone arr m D) (st m)).tmp t = (st i).tmp t := by
    intro t ht
    classical
    rw [tmp_mask, if_neg (h.looks ho hr ht)]
    exact h.st_keep m (by omega) (Nat.le_refl _) fun k x h1 h2 hx => h.no_later ho ht k x h1 h2 hx
  have hroots : (mask (Undone arr m D) (st m)).roots = (st i).roots := by
    rw [h.st_roots i (by omega)]; exact h.st_roots m (Nat.le_refl _)
  have hlo : ∀ k, With D i k → k < m := by
    rintro k (rfl | hk)
    · exact him
    · exact h1.lo k hk
  have hval : ∀ d, o.dst = some d → (st m).tmp d = (st (i + 1)).tmp d := fun d hd => h.st_val ho hd him (Nat.le_refl _)
  rcases hq.done with ⟨hw, av, rt, hst, hav, hfit, hgain⟩ | ⟨hw, hav, hgain⟩
  · -- carried out
    refine wpOp_wanted ho ((hw.looks hlook).wanted h1.rel) ?_
    rw [← stepQ_congr hroots (ev_looks hlook)] at hst
    have hmw := h.mask_with (D := D) ho (B := st m) (av := av) (fun d hd => (hval d hd).trans (hav d hd))
    refine stepQ_sound h.hE h.hlv hst h1.rel K Q fun av' rt' v w' g' hκ hqt hv hn hnew => ?_
    simp only [q0, Option.some.injEq, Prod.mk.injEq] at hκ
    obtain ⟨rfl, rfl⟩ := hκ
    have hdd : (match o.dst with | some d => d | none => 0) < 1000 := dst_small h.hn hdn
    rcases hgain with ⟨rfl, enw⟩ | ⟨q, d, rfl, hd, enw, hnm, hfr⟩
    · refine hK w' g' _ (hqt.inv hdd) ⟨h1.rel.quiet_none hdn hqt hv (hn rfl) hmw rfl, fun k d q hk hg => ?_, hlo⟩
      rcases hk with rfl | hk
      · obtain ⟨o', ho', _, _, e⟩ := hg
        rw [enw] at e
        have := congrArg List.length e
        simp at this
      · exact (h1.new k d q hk hg).quiet_none hqt (hn rfl)
    · rw [hd] at hqt hnew hdd
      simp only at hqt hnew hdd
      obtain ⟨g2, hf, hR⟩ := (hnew q rfl).freeze (fz d)
      have hR' : RepR elid w' g2 d (frzR fz d q) := by simp only [frzR, ← frzC_killC]; exact hR
      -- nothing names the new slot
      obtain ⟨hfresh1, hfresh2⟩ := freshAll_spec h.hf o (List.mem_of_getElem? ho) d hd
      have hgi : Gains arr nws m i d (frzR fz d q) := ⟨o, ho, him, hd, enw⟩
      have hnames : ∀ t, t ≠ d → ((mask (Undone arr m D) (st m)).tmp t).names d = false := by
        intro t htd
        classical
        rw [tmp_mask]
        by_cases hu : Undone arr m D t
        · rw [if_pos hu]; simp [AV.names]
        · rw [if_neg hu]
          by_cases hex : ∃ (k : Nat) (x : Oper), k < m ∧ arr.toList[k]? = some x ∧ x.dst = some t
          · obtain ⟨k, x, hkm, hx, hxd⟩ := hex
            have hDk : D k := Classical.byContradiction fun hnk => hu ⟨k, x, hkm, hx, hxd, hnk⟩
            rw [h.st_val hx hxd hkm (Nat.le_refl _)]
            rcases Nat.lt_trichotomy k i with hki | hki | hki
            · rw [← h.st_val hx hxd hki (by omega)]; exact hnm t
            · subst hki; exact absurd hDk hnd
            · obtain ⟨_, hqk⟩ := h.q k x hkm hx
              rcases hqk.done with ⟨_, avk, rtk, _, hak, hfk, _⟩ | ⟨_, hak, _⟩
              · rw [hak t hxd]
                rcases hfk _ (h.gains_mem hgi k hki (by omega)) with hs | ⟨hs, _⟩
                · obtain ⟨i', o', ho', hd', hb⟩ := mem_slotsOf hs
                  have := h.uniq ho' ho hd' hd
                  subst this
                  exact absurd (hc k hDk _ hb) hnd
                · exact hs
              · rw [hak t hxd]; simp [AV.names, AV.names.namesL]
          · rw [h.st_keep m (Nat.zero_le _) (Nat.le_refl _) (fun k x _ hk hx e => hex ⟨k, x, hk, hx, e⟩), h.st0]
            exact hfresh1 t
      have hnr : ∀ s r, (mask (Undone arr m D) (st m)).root s = some r → s ≠ d ∧ ∀ b, Cell.av b ∈ r.cs → b.names d = false := by
        intro s r hr
        refine hfresh2 s r ?_
        rw [← hr]
        exact (root_congr (h.st_roots m (Nat.le_refl _)) s).symm
      have hrel := h1.rel.quiet_some hd (hdn d hd) hqt hv hmw rfl hnames hnr
      have hrd : (mask (Undone arr m (With D i)) (st m)).root d = none := by
        cases hx : (mask (Undone arr m (With D i)) (st m)).root d with
        | none => rfl
        | some r0 => exact absurd rfl (hnr d r0 hx).1
      refine hK w' g2 _ ((hqt.inv hdd).trans (hf.inv w')) ⟨hrel.frz hf hrd, fun k d' q' hk hg => ?_, hlo⟩
      rcases hk with rfl | hk
      · obtain ⟨o', ho', _, hd', e⟩ := hg
        rw [enw] at e
        cases e
        exact hR'
      · obtain ⟨x, hx, hkm, hxd, e⟩ := id hg
        have hki : k ≠ i := fun e => hnd (e ▸ hk)
        have hdd' : d' ≠ d := fun e => hki (h.uniq hx ho (e ▸ hxd) hd)
        have hq'n : ∀ c, Cell.av c ∈ q'.cs → c.names d = false := by
          rcases Nat.lt_or_ge k i with hlt | hge
          · exact (freshR_mem hfr d' q' (h.gains_mem hg i hlt (by omega))).2
          · have hki' : i < k := by omega
            obtain ⟨_, hqk⟩ := h.q k x hkm hx
            rcases hqk.done with ⟨_, avk, rtk, _, _, hfk, (⟨_, e2⟩ | ⟨q2, d2, hrt2, hd2, e2, _⟩)⟩ | ⟨_, _, e2⟩
            · rw [e2] at e; have := congrArg List.length e; simp at this
            · rw [e2] at e
              cases e
              rcases hfk _ (h.gains_mem hgi k hki' (by omega)) with hs | ⟨_, hs⟩
              · obtain ⟨i', o', ho', hd'', hb⟩ := mem_slotsOf hs
                have := h.uniq ho' ho hd'' hd
                subst this
                exact absurd (hc k hk _ hb) hnd
              · exact frzR_names (hs q2 hrt2)
            · rw [e2] at e; have := congrArg List.length e; simp at this
        exact ((h1.new k d' q' hk hg).quiet hqt hdd' hq'n).frz hf hdd'
  · -- skipped
    refine wpOp_not ho (Wants.not_wanted (Wants.not_looks hlook hw) h1.rel) ?_
    have hmw := h.mask_with (D := D) ho (B := st m) (av := .tup []) (fun d hd => (hval d hd).trans (hav d hd))
    refine hK w g _ (.refl _ _) ⟨(h1.rel.skip hdn).ext (fun t => ?_) (fun s => ?_), fun k d q hk hg => ?_, hlo⟩
    · rw [hmw, tmp_putO]
    · rw [root_putO]; rfl
    · rcases hk with rfl | hk
      · obtain ⟨o', ho', _, _, e⟩ := hg
        rw [hgain] at e
        have := congrArg List.length e
        simp at this
      · exact h1.new k d q hk hg

theorem load_none {o : Oper} {av : AV} {rt : Option Root} {S : St} (hb : loadOp o = true) (h : stepQ E lv o S q0 = some (av, rt)) : rt = none := by
  cases ho : o.op <;> (unfold loadOp at hb; rw [ho] at hb) <;> try (cases hb; done)
  case call c =>
    simp only at hb
    split at hb
    · rename_i hc
      have e : stepQ E lv o S q0 = stepV E.ty o S q0 := by
        unfold stepQ
        rw [ho]
        simp only [hc]
      rw [e] at h
      unfold stepV at h
      rw [ho] at h
      simp only [hc] at h
      split at h
      · rw [lenK_bind] at h
        obtain ⟨l, _, h⟩ := Option.bind_eq_some_iff.1 h
        simp [q0] at h; exact h.2.symm
      · cases h
    · cases hb
  rename_i T x
  have e : stepQ E lv o S q0 = stepV E.ty o S q0 := by
    unfold stepQ
    rw [ho]
  rw [e] at h
  unfold stepV at h
  rw [ho] at h
  simp only at h
  split at h
  · rw [loadK_bind] at h
    obtain ⟨l, _, h⟩ := Option.bind_eq_some_iff.1 h
    split at h
    · simp [q0] at h; exact h.2.symm
    · cases h
  · cases h
theorem calm_none {o : Oper} {av : AV} {rt : Option Root} {S : St} (hb : calmOp o = true) (h : stepQ E lv o S q0 = some (av, rt)) : rt = none := by
  unfold calmOp at hb
  rw [Bool.or_eq_true] at hb
  rcases hb with hb | hb
  · exact blind_none hb h
  · exact load_none hb h
/-- A quiet operation, behind the first of the others. -/
theorem DR.step2 (h : DR P elid E lv fz arr n S0 κ r st nws m lt) {D : Nat → Prop} {j i : Nat} {o : Oper} (hc : Closed arr.toList D) (ho : arr.toList[i]? = some o) (him : i < m) (hnd : ¬ D i) (hb : ∀ av rt, stepQ E lv o (st i) q0 = some (av, rt) → ∀ S', (∀ x ∈ o.op.operands, S'.ev x = (st i).ev x) → S'.roots = (lt j).roots → stepQ E lv o S' q0 = some (av, none)) (hr : ∀ k, Bit arr.toList k i → D k)
    (h2 : P2 elid arr n m lt D j w g a) {Q : Exit → Act → World → Prop} {K : Act → World → Prop} (hK : ∀ w' g' a', Inv w g w' g' → P2 elid arr n m lt (With D i) j w' g' a' → K a' w') : wpOp P arr Q i K a w := by
  obtain ⟨hquiet, hq⟩ := h.q i o him ho
  have hdn := h.dlt ho
  have hmj := h2.mj
  have hjn := h2.jn
  have hlook : ∀ t ∈ looksOf arr.toList o, (mask (Undone arr m D) (lt j)).tmp t = (st i).tmp t := by
    intro t ht
    classical
    rw [tmp_mask, if_neg (h.looks ho hr ht), h.lt_keep (Nat.le_refl m) j (by omega) hjn (fun k x h1 hkj hx e => ?_), h.lt_m]
    · exact h.st_keep m (by omega) (Nat.le_refl _) fun k x h1 h2 hx => h.no_later ho ht k x h1 h2 hx
    · rcases h.pair ho hx (by omega) with hbit | ⟨hap, _⟩
      · exact hnd (hc k ((h2.late k h1).2 hkj) i hbit)
      · exact (apartOp_spec hap).2 t e ht
  have hval : ∀ d, o.dst = some d → (lt j).tmp d = (st (i + 1)).tmp d := fun d hd => by
    rw [h.lt_keep (Nat.le_refl m) j (by omega) hjn (fun k x h1 _ hx e => by have := h.uniq hx ho e hd; omega), h.lt_m]
    exact h.st_val ho hd him (Nat.le_refl _)
  have hlate : ∀ k, m ≤ k → (With D i k ↔ k < j) := by
    intro k hk
    rw [← h2.late k hk]
    constructor
    · rintro (rfl | h)
      · omega
      · exact h
    · exact .inr
  have hnb : ∀ k o, k < m → arr.toList[k]? = some o → calmOp o = false → With D i k := fun k o h1 h3 h4 => .inr (h2.nb k o h1 h3 h4)
  rcases hq.done with ⟨hw, av, rt, hst, hav, _, _⟩ | ⟨hw, hav, _⟩
  · refine wpOp_wanted ho ((hw.looks hlook).wanted h2.rel) ?_
    replace hst := hb av rt hst (mask (Undone arr m D) (lt j)) (ev_looks hlook) rfl
    have hmw := h.mask_with (D := D) ho (B := lt j) (av := av) (fun d hd => (hval d hd).trans (hav d hd))
    refine stepQ_sound h.hE h.hlv hst h2.rel K Q fun av' rt' v w' g' hκ hqt hv hn hnew => ?_
    simp only [q0, Option.some.injEq, Prod.mk.injEq] at hκ
    obtain ⟨rfl, rfl⟩ := hκ
    exact hK w' g' _ (hqt.inv (dst_small h.hn hdn)) ⟨hmj, hjn, h2.rel.quiet_none hdn hqt hv (hn rfl) hmw rfl, hlate, hnb⟩
  · refine wpOp_not ho (Wants.not_wanted (Wants.not_looks hlook hw) h2.rel) ?_
    have hmw := h.mask_with (D := D) ho (B := lt j) (av := .tup []) (fun d hd => (hval d hd).trans (hav d hd))
    refine hK w g _ (.refl _ _) ⟨hmj, hjn, (h2.rel.skip hdn).ext (fun t => ?_) (fun s => ?_), hlate, hnb⟩
    · rw [hmw, tmp_putO]
    · rw [root_putO]; rfl

/-- One of the others. -/
theorem DR.step3 (h : DR P elid E lv fz arr n S0 κ r st nws m lt) {D : Nat → Prop} {j : Nat} {o : Oper} (ho : arr.toList[j]? = some o) (hmj : m ≤ j) (hr : ∀ k, Bit arr.toList k j → D k)
    (hrel : Rel elid n w g (mask (Undone arr m D) (lt j)) a) (hlate : ∀ k, m ≤ k → (D k ↔ k < j)) (hnb : ∀ k o, k < m → arr.toList[k]? = some o → calmOp o = false → D k)
    {Q : Exit → Act → World → Prop} {K : Act → World → Prop} (hK : ∀ w' g' a', Inv w g w' g' → P2 elid arr n m lt (With D j) (j + 1) w' g' a' → K a' w') : wpOp P arr Q j K a w := by
  have hl := h.l j o hmj ho
  have hjl := (List.getElem?_eq_some_iff.mp ho).1
  have hdn := h.dlt ho
  have hlook : ∀ t ∈ looksOf arr.toList o, (mask (Undone arr m D) (lt j)).tmp t = (lt j).tmp t := by
    intro t ht
    classical
    rw [tmp_mask, if_neg (h.looks ho hr ht)]
  have hlate' : ∀ k, m ≤ k → (With D j k ↔ k < j + 1) := by
    intro k hk
    constructor
    · rintro (rfl | hd)
      · omega
      · have := (hlate k hk).1 hd; omega
    · intro hlt
      by_cases e : k = j
      · exact .inl e
      · exact .inr ((hlate k hk).2 (by omega))
  have hnb' : ∀ k o, k < m → arr.toList[k]? = some o → calmOp o = false → With D j k := fun k o h1 h3 h4 => .inr (hnb k o h1 h3 h4)
  -- the masked state behind it
  have hmask : ∀ (av : AV), (∀ d, o.dst = some d → (lt (j + 1)).tmp d = av) → ∀ t, (mask (Undone arr m (With D j)) (lt (j + 1))).tmp t = if o.dst = some t then av else (mask (Undone arr m D) (lt j)).tmp t := by
    intro av hav t
    classical
    rw [h.mask_with (D := D) ho hav t]
    by_cases e : o.dst = some t
    · rw [if_pos e, if_pos e]
    · rw [if_neg e, if_neg e, tmp_mask, tmp_mask, hl.tm t e]
  rcases hl.done with ⟨hw, av, rt, rs, ks, hst, hav, n1, n2, hroot⟩ | ⟨hw, hav, hroot⟩
  · refine wpOp_wanted ho ((hw.looks hlook).wanted hrel) ?_
    rw [← step1_congr (S := lt j) (S' := mask (Undone arr m D) (lt j)) rfl (ev_looks hlook)] at hst
    refine step1_sound h.hE h.hlv (dst_small h.hn hdn) hst hrel K Q fun av' v rt' rs' ks' w' g' hκ hok => ?_
    simp only [w0, Option.some.injEq, Prod.mk.injEq] at hκ
    obtain ⟨rfl, rfl, rfl, rfl⟩ := hκ
    obtain ⟨g2, hS2, hinv⟩ := hrel.gain (fz := fz) hok hdn
    have m1 : rt' ≠ none → ∃ d, o.dst = some d ∧ ∀ t, ((mask (Undone arr m D) (lt j)).tmp t).names d = false := by
      intro hrt
      obtain ⟨d, h1, h2⟩ := n1 hrt
      refine ⟨d, h1, fun t => ?_⟩
      classical
      rw [tmp_mask]
      split
      · simp [AV.names]
      · exact h2 t
    have m2 : ∀ s ∈ ks', ∀ t, ((mask (Undone arr m D) (lt j)).tmp t).namesB s = false := by
      intro s hs t
      classical
      rw [tmp_mask]
      split
      · simp [AV.namesB]
      · exact n2 s hs t
    refine hK w' g2 _ hinv ⟨by omega, by omega, hS2.ext (fun t => ?_) (fun s => ?_), hlate', hnb'⟩
    · rw [gain_tmp m1 m2, hmask _ hav]
    · show (lt (j + 1)).root s = _
      rw [hroot s]
      exact gain_root s
  · refine wpOp_not ho (Wants.not_wanted (Wants.not_looks hlook hw) hrel) ?_
    refine hK w g _ (.refl _ _) ⟨by omega, by omega, (hrel.skip hdn).ext (fun t => ?_) (fun s => ?_), hlate', hnb'⟩
    · rw [hmask _ hav, tmp_putO]
    · rw [root_putO]
      show (lt (j + 1)).root s = (lt j).root s
      exact root_congr hroot s

/-- From before the others to behind them. -/
theorem DR.turn (h : DR P elid E lv fz arr n S0 κ r st nws m lt) {D : Nat → Prop} (h1 : P1 elid arr n st nws m D w g a) (hnb : ∀ k o, k < m → arr.toList[k]? = some o → calmOp o = false → D k) :
    Rel elid n w g (mask (Undone arr m D) (lt m)) a := by
  refine ⟨h1.rel.size, h1.rel.df, fun t => ?_, fun s q hq => ?_⟩
  · have e : (mask (Undone arr m D) (lt m)).tmp t = (mask (Undone arr m D) (st m)).tmp t := by
      classical
      rw [tmp_mask, tmp_mask, h.lt_m]
    rw [e]; exact h1.rel.tm t
  · have hq' : (addRoots (st m) (nws m)).root s = some q := by rw [← h.lt0]; exact hq
    rcases root_addRoots _ _ hq' with hm | hm
    · obtain ⟨i, _, hg⟩ := h.gains_at (k := 0) m (Nat.le_refl _) _ hm
      obtain ⟨o, ho, him, hd, e⟩ := id hg
      refine h1.new i s q (hnb i o him ho ?_) hg
      cases hb : calmOp o with
      | false => rfl
      | true =>
        obtain ⟨_, hqi⟩ := h.q i o him ho
        rcases hqi.done with ⟨_, av, rt, hst, _, _, (⟨_, e2⟩ | ⟨q2, d2, hrt2, _⟩)⟩ | ⟨_, _, e2⟩
        · rw [e2] at e; have := congrArg List.length e; simp at this
        · have := calm_none hb hst
          rw [hrt2] at this; cases this
        · rw [e2] at e; have := congrArg List.length e; simp at this
    · exact h1.rel.rt s q hm
end

end
end Go.Proofs.YtppmpfddcohkjaaA
