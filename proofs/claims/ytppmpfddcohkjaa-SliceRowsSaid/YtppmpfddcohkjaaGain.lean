/- A state after one operation. -/
import Derived.Test.YtppmpfddcohkjaaInv
import Derived.Calls
namespace Go.Proofs.YtppmpfddcohkjaaA
open Go

/-! ### Looking up -/
theorem beq_no {i j : Nat} (h : i ≠ j) : Nat.beq i j = false := by
  cases e : Nat.beq i j with
  | true => exact absurd (Nat.eq_of_beq_eq_true e) h
  | false => rfl
section
variable {α : Type}
theorem look_drop1 (k i : Nat) (l : List (Nat × α)) : look i (drop1 k l) = if i = k then none else look i l := by
  induction l with
  | nil => simp [drop1, look]
  | cons p l ih =>
    obtain ⟨j, a⟩ := p
    simp only [drop1]
    cases h : Nat.beq j k with
    | true =>
      have hjk := Nat.eq_of_beq_eq_true h
      subst hjk
      simp only [cond, ih, look]
      by_cases hi : i = j
      · simp [hi]
      · have : Nat.beq j i = false := beq_no (Ne.symm hi)
        simp [hi, this]
    | false =>
      have hjk : j ≠ k := fun e => by subst e; simp at h
      simp only [cond, look, ih]
      cases h2 : Nat.beq j i with
      | true =>
        have := Nat.eq_of_beq_eq_true h2
        subst this
        simp [hjk]
      | false => simp
theorem look_put1 (k i : Nat) (a : α) (l : List (Nat × α)) : look i (put1 k a l) = if i = k then some a else look i l := by
  simp only [put1, look]
  by_cases hi : i = k
  · subst hi; simp
  · have : Nat.beq k i = false := beq_no (Ne.symm hi)
    simp [this, look_drop1, hi]
theorem look_killT (s i : Nat) (l : List (Nat × AV)) : look i (killT s l) = (look i l).map (AV.kill s) := by
  induction l with
  | nil => rfl
  | cons p l ih =>
    obtain ⟨j, a⟩ := p
    simp only [killT, look]
    cases h : Nat.beq j i with
    | true => simp
    | false => simpa using ih
theorem look_killR (s i : Nat) (l : List (Nat × Root)) : look i (killR s l) = (look i l).map fun r => ⟨r.box, killC s r.cs⟩ := by
  induction l with
  | nil => rfl
  | cons p l ih =>
    obtain ⟨j, a⟩ := p
    simp only [killR, look]
    cases h : Nat.beq j i with
    | true => simp
    | false => simpa using ih
end

theorem tmp_put (S : St) (t : Nat) (b : AV) (i : Nat) : (S.put t b).tmp i = if i = t then b else S.tmp i := by
  unfold St.tmp St.put
  simp only [look_put1]
  by_cases h : i = t <;> simp [h]
theorem tmp_putO (S : St) (o : Option Nat) (b : AV) (i : Nat) : (S.putO o b).tmp i = if o = some i then b else S.tmp i := by
  cases o with
  | none => simp [St.putO]
  | some t => simp only [St.putO, tmp_put, Option.some.injEq]; by_cases h : i = t <;> simp [h, eq_comm]
theorem root_put (S : St) (t : Nat) (b : AV) : (S.put t b).root = S.root := rfl
theorem root_putO (S : St) (o : Option Nat) (b : AV) : (S.putO o b).root = S.root := by cases o <;> rfl
theorem root_setRoot (S : St) (s : Nat) (r : Root) (i : Nat) : (S.setRoot s r).root i = if i = s then some r else S.root i := by
  unfold St.root St.setRoot
  simp only [look_put1]
theorem tmp_setRoot (S : St) (s : Nat) (r : Root) : (S.setRoot s r).tmp = S.tmp := rfl
theorem tmp_clear (S : St) (s i : Nat) : (S.clear s).tmp i = (S.tmp i).kill s := by
  unfold St.tmp St.clear
  simp only [look_killT]
  cases look i S.tmps <;> simp [AV.kill, AV.names]
theorem root_clear (S : St) (s i : Nat) : (S.clear s).root i = if i = s then none else (S.root i).map fun r => ⟨r.box, killC s r.cs⟩ := by
  unfold St.root St.clear
  simp only [look_killR, look_drop1]
  by_cases h : i = s <;> simp [h]

/-- What names parts of slots, killed. -/
def AV.killBs : List Nat → AV → AV
  | [], a => a
  | s :: l, a => AV.killBs l (a.killB s)
def killBs : List Nat → List Cell → List Cell
  | [], cs => cs
  | s :: l, cs => killBs l (killBC s cs)
theorem look_killBT (s i : Nat) (l : List (Nat × AV)) : look i (killBT s l) = (look i l).map (AV.killB s) := by
  induction l with
  | nil => rfl
  | cons p l ih =>
    obtain ⟨j, a⟩ := p
    simp only [killBT, look]
    cases h : Nat.beq j i with
    | true => simp
    | false => simpa using ih
theorem look_killBR (s i : Nat) (l : List (Nat × Root)) : look i (killBR s l) = (look i l).map fun r => ⟨r.box, killBC s r.cs⟩ := by
  induction l with
  | nil => rfl
  | cons p l ih =>
    obtain ⟨j, a⟩ := p
    simp only [killBR, look]
    cases h : Nat.beq j i with
    | true => simp
    | false => simpa using ih
theorem killB_und (s : Nat) : AV.killB s .und = .und := by simp [AV.killB, AV.namesB]
theorem killBs_und : ∀ ks : List Nat, AV.killBs ks .und = .und
  | [] => rfl
  | s :: l => by simp only [AV.killBs, killB_und]; exact killBs_und l
theorem tmp_clearB : ∀ (ks : List Nat) (S : St) (i : Nat), (S.clearB ks).tmp i = (S.tmp i).killBs ks
  | [], _, _ => rfl
  | s :: l, S, i => by
    simp only [St.clearB, AV.killBs]
    rw [tmp_clearB l]
    congr 1
    unfold St.tmp
    simp only [look_killBT]
    cases look i S.tmps with
    | none => simp [killB_und]
    | some a => rfl
theorem root_clearB : ∀ (ks : List Nat) (S : St) (i : Nat), (S.clearB ks).root i = (S.root i).map fun r => ⟨r.box, killBs ks r.cs⟩
  | [], S, i => by
    simp only [St.clearB, killBs]
    cases S.root i <;> rfl
  | s :: l, S, i => by
    simp only [St.clearB]
    rw [root_clearB l]
    unfold St.root
    simp only [look_killBR]
    cases look i S.roots <;> rfl

/-! ### The model's side -/
theorem size_put (a : Act) (o : Option Nat) (v : Value) : (a.put o v).tmps.size = a.tmps.size := by
  cases o <;> simp [Act.put]
theorem defers_put (a : Act) (o : Option Nat) (v : Value) : (a.put o v).defers = a.defers := by
  cases o <;> simp [Act.put]
theorem getD_put (a : Act) (o : Option Nat) (v : Value) (ho : ∀ d, o = some d → d < a.tmps.size) (i : Nat) : (a.put o v).tmps.getD i undef = if o = some i then v else a.tmps.getD i undef := by
  cases o with
  | none => simp [Act.put]
  | some d =>
    have := ho d rfl
    simp only [Act.put, Option.some.injEq]
    by_cases h : d = i
    · subst h; simp [Array.getD, this]
    · rw [if_neg h]
      simp [Array.getD_eq_getD_getElem?, Array.getElem?_setIfInBounds_ne h]

section
variable {elid : El → Nat} {n : Nat} {w w' w'' : World} {g g' g'' : Gh} {S : St} {a : Act} {P : Program}

/-- What one operation has done: the values that were there stand, what is owned is told anew. -/
structure StepOK (elid : El → Nat) (w : World) (g : Gh) (w' : World) (g' : Gh) (d : Nat) (av : AV) (v : Value) (rt : Option Root) (rs : List (Nat × Root)) (ks : List Nat) : Prop where
  inv : Inv w g w' g'
  keep : ∀ b u, RepA w g b u → (rt = none ∨ Avoids (fun s _ => s = d) b) → Avoids (fun s x => s ∈ ks ∧ x ≠ none) b → RepA w' g' b u
  val : RepA w' g' av v
  old : rt = none → ∀ s r, look s rs = some r → RepR elid w' g' s ⟨r.box, killBs ks r.cs⟩
  others : rt ≠ none → ∀ s r, look s rs = some r → s ≠ d → RepR elid w' g' s ⟨r.box, killC d (killBs ks r.cs)⟩
  new : ∀ q, rt = some q → RepR elid w' g' d ⟨q.box, killC d q.cs⟩

theorem frzC_killC (b : Bool) (d : Nat) : ∀ cs : List Cell, frzC b (killC d cs) = killC d (frzC b cs)
  | [] => rfl
  | .av a :: cs => by simp [frzC, killC, Cell.kill, frzC_killC b d cs]
  | .sl t fz xs :: cs => by simp [frzC, killC, Cell.kill, frzC_killC b d cs]

/-- A value with names killed. -/
theorem RepA.killB {w : World} {g : Gh} {b : AV} {v : Value} (h : RepA w g b v) (s : Nat) : RepA w g (b.killB s) v := by
  unfold AV.killB
  cases b.namesB s with
  | true => exact .und _
  | false => exact h
theorem RepA.killBs {w : World} {g : Gh} {v : Value} : ∀ (ks : List Nat) {b : AV}, RepA w g b v → RepA w g (b.killBs ks) v
  | [], _, h => h
  | s :: l, _, h => RepA.killBs l (h.killB s)
theorem namesB_avoids {s : Nat} : ∀ b : AV, b.namesB s = false → Avoids (fun s' x => s' = s ∧ x ≠ none) b := by
  intro b
  refine AV.rec (motive_1 := fun b => b.namesB s = false → Avoids (fun s' x => s' = s ∧ x ≠ none) b) (motive_2 := fun l => AV.namesB.namesBL s l = false → ∀ b, b ∈ l → Avoids (fun s' x => s' = s ∧ x ≠ none) b) ?_ ?_ ?_ ?_ ?_ ?_ ?_ ?_ ?_ ?_ ?_ ?_ ?_ ?_ ?_ ?_ ?_ ?_ ?_ ?_ ?_ ?_ b
  · intro _; exact .und
  · intro _ _; constructor
  · intro _ _ _; constructor
  · intro _ _; constructor
  · intro _; exact .nils
  · intro _ _ _; constructor
  · intro s' j h
    refine .al _ _ ?_
    rintro ⟨rfl, _⟩
    simp [AV.namesB] at h
  · intro s' j h
    refine .ref _ _ ?_
    rintro ⟨_, h⟩
    exact h rfl
  · intro s' j sz i o h
    refine .eref _ _ _ _ _ ?_
    rintro ⟨rfl, _⟩
    simp [AV.namesB] at h
  · intro s' m h
    refine .bs _ _ ?_
    rintro ⟨_, h⟩
    exact h rfl
  · intro s' m h
    refine .bref _ _ ?_
    rintro ⟨_, h⟩
    exact h rfl
  · intro s' m t xs h
    refine .bal _ _ _ _ fun _ => ?_
    rintro ⟨rfl, _⟩
    simp [AV.namesB] at h
  · intro cs ih h; exact .vp _ (ih (by simpa [AV.namesB] using h))
  · intro cs ih h; exact .vi _ (ih (by simpa [AV.namesB] using h))
  · intro _; exact .nilp
  · intro t x _; exact .optp t x
  · intro q t xs _; exact .nq q t xs
  · intro cs ih h; exact .agg _ (ih (by simpa [AV.namesB] using h))
  · intro cs ih h; exact .tup _ (ih (by simpa [AV.namesB] using h))
  · intro f cs ih h; exact .fn _ _ (ih (by simpa [AV.namesB] using h))
  · intro _ b hb; simp at hb
  · intro a l ih iht h b hb
    simp only [AV.namesB.namesBL, Bool.or_eq_false_iff] at h
    rcases List.mem_cons.mp hb with rfl | hb
    · exact ih h.1
    · exact iht h.2 b hb
theorem Avoids.mono {N N' : Nat → Option Nat → Prop} (hN : ∀ s x, N' s x → N s x) {b : AV} (h : Avoids N b) : Avoids N' b := by
  induction h with
  | und => exact .und
  | bool => constructor
  | int => constructor
  | str => constructor
  | nils => constructor
  | L => constructor
  | al s j h => exact .al _ _ fun hn => h (hN _ _ hn)
  | ref s o h => exact .ref _ _ fun hn => h (hN _ _ hn)
  | eref s j sz i o h => exact .eref _ _ _ _ _ fun hn => h (hN _ _ hn)
  | bs s m h => exact .bs _ _ fun hn => h (hN _ _ hn)
  | bref s m h => exact .bref _ _ fun hn => h (hN _ _ hn)
  | bal s m t xs h => exact .bal _ _ _ _ fun j hn => h j (hN _ _ hn)
  | vp cs _ ih => exact .vp _ ih
  | vi cs _ ih => exact .vi _ ih
  | nilp => constructor
  | optp => constructor
  | nq => constructor
  | agg cs _ ih => exact .agg _ ih
  | tup cs _ ih => exact .tup _ ih
  | fn f cs _ ih => exact .fn _ _ ih
theorem Avoids.or {N N' N'' : Nat → Option Nat → Prop} {b : AV} (h : Avoids N b) : Avoids N' b → (∀ s x, N'' s x → N s x ∨ N' s x) → Avoids N'' b := by
  induction h with
  | und => intro _ _; exact .und
  | bool => intro _ _; constructor
  | int => intro _ _; constructor
  | str => intro _ _; constructor
  | nils => intro _ _; constructor
  | L => intro _ _; constructor
  | al s j h => intro h' hN; cases h' with | al _ _ h' => exact .al _ _ fun hn => (hN _ _ hn).elim h h'
  | ref s o h => intro h' hN; cases h' with | ref _ _ h' => exact .ref _ _ fun hn => (hN _ _ hn).elim h h'
  | eref s j sz i o h => intro h' hN; cases h' with | eref _ _ _ _ _ h' => exact .eref _ _ _ _ _ fun hn => (hN _ _ hn).elim h h'
  | bs s m h => intro h' hN; cases h' with | bs _ _ h' => exact .bs _ _ fun hn => (hN _ _ hn).elim h h'
  | bref s m h => intro h' hN; cases h' with | bref _ _ h' => exact .bref _ _ fun hn => (hN _ _ hn).elim h h'
  | bal s m t xs h => intro h' hN; cases h' with | bal _ _ _ _ h' => exact .bal _ _ _ _ fun j hn => (hN _ _ hn).elim (h j) (h' j)
  | vp cs _ ih => intro h' hN; cases h' with | vp _ h' => exact .vp _ fun a ha => ih a ha (h' a ha) hN
  | vi cs _ ih => intro h' hN; cases h' with | vi _ h' => exact .vi _ fun a ha => ih a ha (h' a ha) hN
  | nilp => intro _ _; constructor
  | optp => intro _ _; constructor
  | nq => intro _ _; constructor
  | agg cs _ ih => intro h' hN; cases h' with | agg _ h' => exact .agg _ fun a ha => ih a ha (h' a ha) hN
  | tup cs _ ih => intro h' hN; cases h' with | tup _ h' => exact .tup _ fun a ha => ih a ha (h' a ha) hN
  | fn f cs _ ih => intro h' hN; cases h' with | fn _ _ h' => exact .fn _ _ fun a ha => ih a ha (h' a ha) hN
theorem killB_avoids (s : Nat) (b : AV) : Avoids (fun s' x => s' = s ∧ x ≠ none) (b.killB s) := by
  unfold AV.killB
  cases h : b.namesB s with
  | true => exact .und
  | false => exact namesB_avoids b h
theorem Avoids.killB {N : Nat → Option Nat → Prop} {b : AV} (h : Avoids N b) (s : Nat) : Avoids N (b.killB s) := by
  unfold AV.killB
  cases b.namesB s with
  | true => exact .und
  | false => exact h
theorem Avoids.killBs {N : Nat → Option Nat → Prop} : ∀ (ks : List Nat) {b : AV}, Avoids N b → Avoids N (b.killBs ks)
  | [], _, h => h
  | s :: l, _, h => Avoids.killBs l (h.killB s)
theorem killBs_avoids : ∀ (ks : List Nat) (b : AV), Avoids (fun s x => s ∈ ks ∧ x ≠ none) (b.killBs ks)
  | [], b => (avoids_none b).mono fun s x h => by simp at h
  | s :: l, b => by
    simp only [AV.killBs]
    refine (((killB_avoids s b).killBs l).or (killBs_avoids l (b.killB s))) ?_
    rintro s' x ⟨h, hx⟩
    rcases List.mem_cons.mp h with rfl | h
    · exact .inl ⟨rfl, hx⟩
    · exact .inr ⟨h, hx⟩
theorem Avoids.kill {N : Nat → Option Nat → Prop} {b : AV} (h : Avoids N b) (s : Nat) : Avoids N (b.kill s) := by
  unfold AV.kill
  cases b.names s with
  | true => exact .und
  | false => exact h

/-- The state behind an operation. -/
theorem Rel.gain (hS : Rel elid n w g S a) {o : Oper} {av : AV} {v : Value} {rt : Option Root} {rs : List (Nat × Root)} {ks : List Nat} {fz : Nat → Bool}
    (h : StepOK elid w g w' g' (match o.dst with | some d => d | none => 0) av v rt rs ks) (hd : ∀ d, o.dst = some d → d < n) :
    ∃ g'', Rel elid n w' g'' (St.gain fz (St.clearB ⟨S.tmps, rs⟩ ks) o av rt) (a.put o.dst v) ∧ Inv w g w' g'' := by
  have hsz : ∀ d, o.dst = some d → d < a.tmps.size := fun d e => by rw [hS.size]; exact hd d e
  have htm : ∀ t, (St.clearB ⟨S.tmps, rs⟩ ks).tmp t = (S.tmp t).killBs ks := fun t => tmp_clearB ks ⟨S.tmps, rs⟩ t
  have hrt : ∀ s, (St.clearB ⟨S.tmps, rs⟩ ks).root s = (look s rs).map fun r => ⟨r.box, killBs ks r.cs⟩ := fun s => root_clearB ks ⟨S.tmps, rs⟩ s
  cases rt with
  | none =>
    refine ⟨g', ⟨by rw [size_put]; exact hS.size, by rw [defers_put]; exact hS.df, fun t => ?_, fun s r hr => ?_⟩, h.inv⟩
    · simp only [St.gain]
      rw [tmp_putO, getD_put _ _ _ hsz]
      by_cases e : o.dst = some t
      · rw [if_pos e, if_pos e]; exact h.val
      · rw [if_neg e, if_neg e, htm]; exact h.keep _ _ ((hS.tm t).killBs ks) (.inl rfl) (killBs_avoids ks _)
    · simp only [St.gain] at hr
      rw [root_putO, hrt] at hr
      cases hl : look s rs with
      | none => rw [hl] at hr; cases hr
      | some r0 =>
        rw [hl] at hr
        simp only [Option.map_some, Option.some.injEq] at hr
        subst hr
        exact h.old rfl s r0 hl
  | some q =>
    cases ho : o.dst with
    | none =>
      rw [ho] at h
      refine ⟨g', ⟨by rw [size_put]; exact hS.size, by rw [defers_put]; exact hS.df, fun t => ?_, fun s r hr => ?_⟩, h.inv⟩
      · simp only [St.gain, ho]
        rw [tmp_clear, getD_put _ _ _ (fun d e => by cases e), if_neg (fun h => by cases h), htm]
        exact h.keep _ _ (((hS.tm t).killBs ks).kill (d := 0)) (.inr (kill_avoids 0 _)) ((killBs_avoids ks _).kill 0)
      · simp only [St.gain, ho] at hr
        rw [root_clear] at hr
        by_cases e : s = 0
        · rw [if_pos e] at hr; cases hr
        · rw [if_neg e, hrt] at hr
          cases hl : look s rs with
          | none => rw [hl] at hr; cases hr
          | some r0 =>
            rw [hl] at hr
            simp only [Option.map_some, Option.some.injEq] at hr
            subst hr
            exact h.others (by simp) s r0 hl e
    | some d =>
      rw [ho] at h
      simp only at h
      obtain ⟨g'', hf, hr⟩ := (h.new q rfl).freeze (fz d)
      refine ⟨g'', ⟨by rw [size_put]; exact hS.size, by rw [defers_put]; exact hS.df, fun t => ?_, fun s r hr' => ?_⟩, h.inv.trans (hf.inv w')⟩
      · simp only [St.gain, ho]
        rw [tmp_put, getD_put _ _ _ (by rw [← ho]; exact hsz), tmp_setRoot, tmp_clear]
        by_cases e : t = d
        · subst e; simp only [if_true]; exact h.val.frz hf
        · rw [if_neg e, if_neg (fun h => e (by cases h; rfl)), htm]
          exact (h.keep _ _ (((hS.tm t).killBs ks).kill (d := d)) (.inr (kill_avoids d _)) ((killBs_avoids ks _).kill d)).frz hf
      · simp only [St.gain, ho] at hr'
        rw [root_put, root_setRoot] at hr'
        by_cases e : s = d
        · subst e
          rw [if_pos rfl] at hr'
          cases hr'
          simp only [frzR, ← frzC_killC]
          exact hr
        · rw [if_neg e, root_clear, if_neg e, hrt] at hr'
          cases hl : look s rs with
          | none => rw [hl] at hr'; cases hr'
          | some r0 =>
            rw [hl] at hr'
            simp only [Option.map_some, Option.some.injEq] at hr'
            subst hr'
            exact (h.others (by simp) s r0 hl e).frz hf e

end
end Go.Proofs.YtppmpfddcohkjaaA
