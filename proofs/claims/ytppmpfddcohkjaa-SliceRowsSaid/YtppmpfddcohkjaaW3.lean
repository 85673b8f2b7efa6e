/- Appends. -/
import Derived.Test.YtppmpfddcohkjaaW2
namespace Go.Proofs.YtppmpfddcohkjaaA
open Go

section
variable {elid : El → Nat} {n : Nat} {w w' w'' : World} {g g' g'' : Gh} {S : St} {a : Act} {P : Program}

/-- A root stays what it is, but for a part of it that it lists no more. -/
theorem RepR.pres2 {M : Nat → Nat → Prop} {N : Nat → Option Nat → Prop} (hc : Chg w w' M) (hg : GA w g g' N) {s : Nat} {r : Root}
    (hM : ∀ b o, b < w.heap.size → M b o → ∃ s' x, g.who b o = .obj s' x ∧ (s' ≠ s ∨ ∃ i, x = some i ∧ ∀ t fz xs, r.cs[i]? ≠ some (.sl t fz xs)))
    (ho : ∀ b o x, b < w.heap.size → g.who b o = .obj s x → (∀ i, x = some i → ∃ t fz xs, r.cs[i]? = some (.sl t fz xs)) → g'.who b o = .obj s x)
    (hN : ∀ x, ¬ N s x) (hav : ∀ b, Cell.av b ∈ r.cs → Avoids N b) (h : RepR elid w g s r) : RepR elid w' g' s r := by
  have hM' : ∀ b o, b < w.heap.size → M b o → ∃ s x, g.who b o = .obj s x := fun b o hb hm => let ⟨s, x, e, _⟩ := hM b o hb hm; ⟨s, x, e⟩
  have hMj : ∀ {j t fz xs}, r.cs[j]? = some (Cell.sl t fz xs) → ∀ b o, b < w.heap.size → M b o → ∃ s' x, g.who b o = .obj s' x ∧ (s' ≠ s ∨ x ≠ some j) := by
    intro j t fz xs hj b o hb hm
    obtain ⟨s', x, e, h⟩ := hM b o hb hm
    refine ⟨s', x, e, ?_⟩
    rcases h with h | ⟨i, rfl, h⟩
    · exact .inl h
    · refine .inr fun e => ?_
      cases e; exact h _ _ _ hj
  have hoj : ∀ {j t fz xs}, r.cs[j]? = some (Cell.sl t fz xs) → ∀ b o, b < w.heap.size → g.who b o = .obj s (some j) → g'.who b o = .obj s (some j) :=
    fun hj b o hb e => ho b o _ hb e fun i hi => by cases hi; exact ⟨_, _, _, hj⟩
  refine ⟨fun hb j t fz xs hj => (h.apart hb j t fz xs hj).pres hc hg (hoj hj) (hMj hj) (hN _), fun hb => ?_⟩
  obtain ⟨vals, hv⟩ := h.box hb
  refine ⟨vals, fun j hj => ?_⟩
  obtain ⟨h1, h2, h3, h4, h5⟩ := hv j hj
  rw [hg.hb s (hN none)]
  have hnm : ¬ M (g.hb s).1 ((g.hb s).2 + j) := fun hm => by
    obtain ⟨s', x, e, hne⟩ := hM _ _ h1 hm
    rw [h2] at e; cases e
    rcases hne with h | ⟨i, h, _⟩
    · exact h rfl
    · cases h
  refine ⟨Nat.lt_of_lt_of_le h1 hc.size, ho _ _ _ h1 h2 (fun i hi => by cases hi), (hc.cel _ _ h1 hnm).trans h3, (hc.frz _ _ h1 hnm).trans h4, ?_⟩
  have key : ∀ c v, r.cs[j] = c → RepC elid w g s j c v → RepC elid w' g' s j c v := by
    intro c v hcj hv5
    cases hv5 with
    | av b v h => exact .av b v (h.pres hc hM' hg (hav b (by rw [← hcj]; exact List.getElem_mem hj)))
    | sl t fz xs h =>
      have hjj : r.cs[j]? = some (Cell.sl t fz xs) := by rw [List.getElem?_eq_getElem hj, hcj]
      rw [← hg.hs s j (hN _)]; exact .sl t fz xs (h.pres hc hg (hoj hjj) (hMj hjj) (hN _))
  exact key _ _ rfl h5

/-- What an append has done: nothing; in place; in a new block. -/
theorem run_append3 {t e : TypeId} (ty : TypeId) {i : TypeInfo} {z : Value} {size bytes : Nat} (ht : P.underlying t = some (.slice e)) (hi : P.info? e = some i) (hz : i.zero = some z)
    (hsize : i.size = size) (hby : i.bytes = bytes) (hzs : z.cells.size = size) (hsz : 0 < size)
    {v : Value} {n : Nat} {xs : List Value} (hown : w.ownsRow 0 e size v n xs)
    {ad : Option Addr} {m c : Nat} {news : List Value} (hl : news.length = m * size) (hnews : m ≠ 0 → ∃ q, ad = some q ∧ ∀ j u, news[j]? = some u → w.cell? (q.add j) = some u) (h1 : ∀ u ∈ news, u.oneCell' = true)
    (h63 : n + m ≤ maxLen) (hbytes : (n + m) * bytes ≤ 140737488355328) :
    ∃ v' w', (Builtin.append_ #[t, t] ty #[v, .slice ad m c]).run P w = .ok v' w' ∧ w'.ownsRow 0 e size v' (n + m) (xs ++ news) ∧
      ((v' = v ∧ w' = w) ∨ (∃ b cap, v = .slice (some ⟨b, 0, none⟩) n cap ∧ v' = .slice (some ⟨b, 0, none⟩) (n + m) cap ∧ w.grownBy w' (some b)) ∨
        (∃ cap, v' = .slice (some ⟨w.heap.size, 0, none⟩) (n + m) cap ∧ w.grownBy w' none)) := by
  subst hsize
  subst hby
  by_cases hm : m = 0
  · subst hm
    have hn : news = [] := List.eq_nil_of_length_eq_zero (by simpa using hl)
    subst hn
    refine ⟨v, w, ?_, by simpa using hown, .inl ⟨rfl, rfl⟩⟩
    rcases hown.2 with ⟨rfl, rfl⟩ | ⟨b, cap, cur, rfl, _, _, hnc, _⟩
    · cases ad <;> simp [Builtin.append_, run_underlying ht, sizeOf, typeInfo, hi, Builtin.lenOf, Builtin.firstCells, loadCells, loadCellsFrom]
    · cases ad <;> simp [Builtin.append_, run_underlying ht, sizeOf, typeInfo, hi, Builtin.lenOf, Builtin.firstCells, hnc, storeCells, loadCells, loadCellsFrom]
  · obtain ⟨q, rfl, hq⟩ := hnews hm
    have hsmall : n + m ≤ 9223372036854775807 := by simp only [maxLen] at h63; omega
    have hlen : (xs ++ news).length = (n + m) * i.size := by rw [List.length_append, hown.1, hl, Nat.add_mul]
    have grown : ∀ (old : Nat),
        (w.drew.alloc (.cells (xs.toArray ++ news.toArray ++ Builtin.zeroCells z.cells (grownCap w (n + m) old e - (n + m))) e)).ownsRow 0 e i.size
          (.slice (some ⟨w.heap.size, 0, none⟩) (n + m) (grownCap w (n + m) old e)) (n + m) (xs ++ news) := by
      intro old
      have hge := grownCap_ge w (n + m) old e
      have hcm := grownCap_le_maxLen w (n + m) old e h63
      refine ⟨hlen, .inr ⟨w.heap.size, _, _, rfl, Nat.zero_le _, heap_alloc_new w.drew _, hge, hcm, ?_, ?_⟩⟩
      · simp only [Array.size_append, List.size_toArray, size_zeroCells, hzs, hown.1, hl, ← Nat.add_mul]
        congr 1; omega
      · simp only [Array.toList_append]
        rw [← hlen, List.take_left' (by simp)]
    have hgr : ∀ o : Obj, w.grownBy (w.drew.alloc o) none := fun o => ⟨rfl, rfl, rfl, by simp, fun k hk _ => heap_alloc_old w.drew _ k hk⟩
    rcases hown.2 with ⟨rfl, rfl⟩ | ⟨b, cap, cur, rfl, _, hg, hnc, hcm, hcs, htake⟩
    · have hx : xs = [] := List.eq_nil_of_length_eq_zero (by simpa using hown.1)
      subst hx
      have hr := run_append_nil (P := P) w t ty e i z ht hi hz q m c news hl hq (by omega) (by omega) (by have hb := hbytes; simp only [Nat.zero_add] at hb; omega)
      have h0 := grown 0
      simp only [Nat.zero_add, List.nil_append, Array.empty_append] at h0 ⊢
      exact ⟨_, _, hr, h0, .inr (.inr ⟨_, rfl, hgr _⟩)⟩
    · by_cases hroom : n + m ≤ cap
      · obtain ⟨w', hr, h2, h3⟩ := run_append_fits (P := P) w 0 t ty e i i.size ht hi rfl b n cap xs hown q m c news hl hq h1 hroom
        exact ⟨_, w', hr, h2, .inr (.inl ⟨b, cap, rfl, rfl, h3⟩)⟩
      · have holds : ∀ j u, xs[j]? = some u → w.cell? ((⟨b, 0, none⟩ : Addr).add j) = some u := hown.cells (g := b) rfl
        have hr := run_append_grow (P := P) w t ty e i z ht hi hz ⟨b, 0, none⟩ n cap xs hown.1 holds q m c news hl hq (by omega) (by omega) (growslice_fits (by omega) hbytes)
        exact ⟨_, _, hr, grown cap, .inr (.inr ⟨_, rfl, hgr _⟩)⟩

open Classical in
noncomputable def gApp (g : Gh) (d : Nat) (v : Value) (fz : Bool) (k : Nat) : Gh :=
  ⟨fun b o => if v.ownBlock = some b then (if o < k then (if fz then .imm else .obj d (some 0)) else .obj d (some 0)) else g.who b o, fun s j => if s = d then v else g.hs s j, g.hb⟩

theorem append_ok {t : El} {xs ys : List t.den} {fz : Bool} {s j d : Nat} {v v' : Value} {vals news : List Value} {rs : List (Nat × Root)}
    (hrow : w.ownsRow 0 (elid t) t.size v xs.length vals) (hvr : RepL w g (flat t xs) vals) (hnr : RepL w g (flat t ys) news)
    (hown : ∀ b n cap, v = .slice (some ⟨b, 0, none⟩) n cap → b < w.heap.size ∧ ∀ o, g.who b o = if o < xs.length * t.size then (if fz then .imm else .obj s (some j)) else .obj s (some j))
    (hrow' : w'.ownsRow 0 (elid t) t.size v' (xs.length + ys.length) (vals ++ news))
    (hcase : (v' = v ∧ w' = w) ∨ (∃ b cap, v = .slice (some ⟨b, 0, none⟩) xs.length cap ∧ v' = .slice (some ⟨b, 0, none⟩) (xs.length + ys.length) cap ∧ w.grownBy w' (some b)) ∨
        (∃ cap, v' = .slice (some ⟨w.heap.size, 0, none⟩) (xs.length + ys.length) cap ∧ w.grownBy w' none))
    (hothers : ∀ s' r, look s' rs = some r → RepR elid w g s' r ∧ (s' = s → v ≠ .slice none 0 0 → ∀ t fz xs, r.cs[j]? ≠ some (.sl t fz xs))) :
    ∃ g', StepOK elid w g w' g' d (.al d 0) v' (some ⟨false, [.sl t fz (xs ++ ys)]⟩) rs [] := by
  have hk : (xs.length + ys.length) * t.size = (xs ++ ys).length * t.size := by rw [List.length_append]
  have hle : xs.length * t.size ≤ (xs.length + ys.length) * t.size := Nat.mul_le_mul_right _ (by omega)
  -- which blocks the new owner's may be
  have hblk : ∀ b, b < w.heap.size → v'.ownBlock = some b → ∃ m cap, v = .slice (some ⟨b, 0, none⟩) m cap := by
    intro b hb e
    rcases hcase with ⟨rfl, _⟩ | ⟨b', cap, e1, e2, _⟩ | ⟨cap, e2, _⟩
    · rcases hrow.2 with ⟨rfl, _⟩ | ⟨b', cap, cur, rfl, _⟩
      · cases e
      · simp only [Value.ownBlock, Option.some.injEq] at e
        subst e; exact ⟨_, _, rfl⟩
    · rw [e2] at e
      simp only [Value.ownBlock, Option.some.injEq] at e
      subst e; exact ⟨_, _, e1⟩
    · rw [e2] at e
      simp only [Value.ownBlock, Option.some.injEq] at e
      omega
  have hwho : ∀ b o, b < w.heap.size → v'.ownBlock ≠ some b → (gApp g d v' fz ((xs.length + ys.length) * t.size)).who b o = g.who b o := by
    intro b o _ h; simp [gApp, h]
  -- what has changed
  have hchg : Chg w w' fun b o => v'.ownBlock = some b ∧ xs.length * t.size ≤ o := by
    rcases hcase with ⟨_, rfl⟩ | ⟨b, cap, e1, e2, hg⟩ | ⟨cap, e2, hg⟩
    · exact .refl _ _
    · subst e1; subst e2
      refine ⟨hg.os, hg.tape, hg.output, hg.size, fun k hk hn => hg.block k hk (fun e => ?_), fun k o hk hn => ?_, fun k o hk hn => ?_⟩
      · cases e; exact hn (xs.length * t.size) ⟨rfl, Nat.le_refl _⟩
      · by_cases hkb : k = b
        · subst hkb
          have ho : o < xs.length * t.size := Nat.lt_of_not_le fun h => hn ⟨rfl, h⟩
          rw [hrow'.cellAt o (by omega), hrow.cellAt o ho, List.getElem?_append_left (by rw [hrow.1]; exact ho)]
        · exact World.cell?_of_block (hg.block k hk (by simpa using hkb))
      · by_cases hkb : k = b
        · subst hkb
          rw [hrow'.frozenAt, hrow.frozenAt]
        · exact World.frozen?_of_block (hg.block k hk (by simpa using hkb))
    · exact .of_below ⟨hg.os, hg.tape, hg.output, hg.size, fun b hb => hg.block b hb (by simp)⟩ _
  have hM : ∀ b o, b < w.heap.size → (v'.ownBlock = some b ∧ xs.length * t.size ≤ o) → v ≠ .slice none 0 0 ∧ g.who b o = .obj s (some j) := by
    rintro b o hb ⟨h1, h2⟩
    obtain ⟨m, cap, rfl⟩ := hblk b hb h1
    refine ⟨by simp, ?_⟩
    have := (hown b m cap rfl).2 o
    rwa [if_neg (by omega)] at this
  have himm : ∀ b o, b < w.heap.size → g.who b o = .imm → (gApp g d v' fz ((xs.length + ys.length) * t.size)).who b o = .imm := by
    intro b o hb e
    by_cases h1 : v'.ownBlock = some b
    · obtain ⟨m, cap, rfl⟩ := hblk b hb h1
      have := (hown b m cap rfl).2 o
      rw [e] at this
      split at this
      · rename_i ho
        cases fz with
        | true => simp only [gApp, h1, if_true]; rw [if_pos (by omega)]
        | false => simp at this
      · cases this
    · rw [hwho b o hb h1, e]
  have hrest : ∀ b o q, b < w.heap.size → g.who b o = q → q ≠ .imm → q ≠ .obj s (some j) → (gApp g d v' fz ((xs.length + ys.length) * t.size)).who b o = q := by
    intro b o q hb e hq hq2
    by_cases h1 : v'.ownBlock = some b
    · obtain ⟨m, cap, rfl⟩ := hblk b hb h1
      have := (hown b m cap rfl).2 o
      rw [e] at this
      split at this
      · split at this
        · exact absurd this hq
        · exact absurd this hq2
      · exact absurd this hq2
    · rw [hwho b o hb h1, e]
  have hga : GA w g (gApp g d v' fz ((xs.length + ys.length) * t.size)) fun s' _ => s' = d := by
    refine ⟨himm, fun b o hb e => hrest b o _ hb e (by simp) (by simp), fun s' j' hn => ?_, fun s' _ => rfl⟩
    simp [gApp, show ¬ s' = d from hn]
  have hM' : ∀ b o, b < w.heap.size → (v'.ownBlock = some b ∧ xs.length * t.size ≤ o) → ∃ s x, g.who b o = .obj s x := fun b o hb hm => ⟨_, _, (hM b o hb hm).2⟩
  have hv' : ∃ ad m cap, v' = .slice ad m cap := by
    rcases hrow'.2 with ⟨e, _⟩ | ⟨_, _, _, e, _⟩
    · exact ⟨_, _, _, e⟩
    · exact ⟨_, _, _, e⟩
  have hhs : (gApp g d v' fz ((xs.length + ys.length) * t.size)).hs d 0 = v' := by simp [gApp]
  refine ⟨gApp g d v' fz ((xs.length + ys.length) * t.size), ⟨⟨hchg.mono hM', himm, hga.bor, fun b o hb e => hrest b o _ hb e (by simp) (by simp), fun s _ => rfl⟩, ?_, ?_, ?_, ?_, ?_⟩⟩
  · rintro b u hb (h | h) _
    · cases h
    · exact hb.pres hchg hM' hga h
  · obtain ⟨ad, m, cap, e⟩ := hv'
    have := hhs
    rw [e] at this ⊢
    exact .al d 0 _ _ _ this
  · intro h; cases h
  · intro _ s' r hr hs'
    obtain ⟨h1, h2⟩ := hothers s' r hr
    show RepR elid w' _ s' ⟨r.box, killC d r.cs⟩
    refine (h1.kill d).pres2 hchg hga (fun b o hb hm => ?_) (fun b o x hb e hx => ?_) (fun _ => hs') (fun b hb => mem_killC hb)
    · obtain ⟨q1, q2⟩ := hM b o hb hm
      refine ⟨_, _, q2, ?_⟩
      by_cases hss : s = s'
      · refine .inr ⟨j, rfl, fun t fz xs e => ?_⟩
        rw [killC_get] at e
        cases hc : r.cs[j]? with
        | none => rw [hc] at e; cases e
        | some c =>
          rw [hc] at e
          cases c with
          | av b => simp [Cell.kill] at e
          | sl u f zs => exact h2 hss.symm q1 u f zs hc
      · exact .inl hss
    · by_cases hb1 : v'.ownBlock = some b
      · exfalso
        obtain ⟨m, cap, hv⟩ := hblk b hb hb1
        have := (hown b m cap hv).2 o
        rw [e] at this
        have hsx : Own.obj s' x = .obj s (some j) := by
          split at this
          · split at this
            · cases this
            · exact this
          · exact this
        cases hsx
        obtain ⟨t, fz, xs, e2⟩ := hx j rfl
        rw [killC_get] at e2
        cases hc : r.cs[j]? with
        | none => rw [hc] at e2; cases e2
        | some c =>
          rw [hc] at e2
          cases c with
          | av b => simp [Cell.kill] at e2
          | sl u f zs => exact h2 rfl (by rw [hv]; simp) u f zs hc
      · rw [hwho b o hb hb1, e]
  · intro q hq
    cases hq
    refine ⟨fun _ i u f zs hi => ?_, fun h => by cases h⟩
    cases i with
    | succ i => simp [killC] at hi
    | zero =>
      simp only [killC, Cell.kill, List.getElem?_cons_zero, Option.some.injEq] at hi
      cases hi
      have hall : RepL w g (flat t (xs ++ ys)) (vals ++ news) := by
        have : flat t (xs ++ ys) = flat t xs ++ flat t ys := by simp [flat]
        rw [this]; exact hvr.append hnr
      refine ⟨⟨vals ++ news, ?_, hall.1, fun i h h' => (hall.2 i h h').pres hchg hM' hga (flat_avoids _ t _ _ (List.getElem_mem h))⟩, ?_⟩
      · rw [hhs, List.length_append]; exact hrow'
      · intro b m cap e
        rw [hhs] at e
        refine ⟨?_, fun o => ?_⟩
        · rcases hrow'.2 with ⟨e2, _⟩ | ⟨b', cap', cur, e2, _, hh, _⟩
          · rw [e2] at e; cases e
          · rw [e2] at e; cases e
            exact (Array.getElem?_eq_some_iff.mp hh).1
        · rw [← hk]
          have : v'.ownBlock = some b := by rw [e]; rfl
          simp only [gApp, this, if_true]

theorem RepS.row_rep {s j : Nat} {t : El} {fz : Bool} {xs : List t.den} (h : RepS elid w g s j t fz xs) : ∃ vals, w.ownsRow 0 (elid t) t.size (g.hs s j) xs.length vals ∧ RepL w g (flat t xs) vals := by
  obtain ⟨vals, h1, h2, h3⟩ := h.row
  exact ⟨vals, h1, h2, h3⟩

/-- The cells of what is appended. -/
theorem elems_cells {t : El} {ys : List t.den} {v : Value} (h : ∃ ad cap, v = .slice ad ys.length cap ∧ ys.length ≤ cap ∧ (ys ≠ [] → ∃ (b o : Nat) (vals : Nat → Value), ad = some ⟨b, o, none⟩ ∧ ∀ j (h : j < (flat t ys).length), w.cell? ⟨b, o + j, none⟩ = some (vals j) ∧ RepA w g ((flat t ys)[j]) (vals j))) :
    ∃ ad cap news, v = .slice ad ys.length cap ∧ ys.length ≤ cap ∧ RepL w g (flat t ys) news ∧ news.length = ys.length * t.size ∧ (∀ u ∈ news, u.oneCell' = true) ∧
      (ys.length ≠ 0 → ∃ b o, ad = some ⟨b, o, none⟩ ∧ ∀ (j : Nat) (u : Value), news[j]? = some u → w.cell? ⟨b, o + j, none⟩ = some u) := by
  obtain ⟨ad, cap, rfl, hcap, hc⟩ := h
  by_cases hy : ys = []
  · subst hy
    exact ⟨ad, cap, [], rfl, hcap, .nil, by simp, fun u hu => by simp at hu, fun h => absurd rfl h⟩
  · obtain ⟨b, o, vals, rfl, hv⟩ := hc hy
    have hl : RepL w g (flat t ys) ((List.range (flat t ys).length).map vals) := ⟨by simp, fun j hj hj' => by simp only [List.getElem_map, List.getElem_range]; exact (hv j hj).2⟩
    refine ⟨_, cap, _, rfl, hcap, hl, by simp [flat_length], hl.one (flat_isCell t ys), fun _ => ⟨b, o, rfl, fun j u hu => ?_⟩⟩
    obtain ⟨h1, h2⟩ := List.getElem?_eq_some_iff.mp hu
    simp only [List.getElem_map, List.getElem_range] at h2
    rw [← h2]; exact (hv j (by simpa using h1)).1

theorem two_args {c : Call} {x y : Operand} (h : c.args.toList = [x, y]) : c.args.map a.eval = #[a.eval x, a.eval y] := by
  apply Array.toList_inj.mp; simp [h]
theorem two_types {c : Call} {T T' : TypeId} (h : c.argTypes.toList = [T, T']) : c.argTypes = #[T, T'] := by
  apply Array.toList_inj.mp; simp [h]

theorem stepW_append {R : Type} {E : TypeId → Option TyI} (hE : ∀ T i, E T = some i → TyOK P elid T i) {o : Oper} {κ : AV → Option Root → List (Nat × Root) → List Nat → Option R} {r : R} {c : Call} {d : Nat}
    (ho : o.op = .call c) (hb : c.callee = .builtin .append) (h : (match c.args.toList, c.argTypes.toList with
      | [b, x], [T, T'] =>
        match bif Nat.beq T T' then E T else none with
        | some i =>
          match i.elem with
          | some t =>
            match elemsOf S t (S.ev x) with
            | some ys =>
              match S.ev b with
              | .nils => bif decide (ys.length * i.ebytes ≤ 140737488355328) then κ (.al d 0) (some ⟨false, [.sl t false ys]⟩) S.roots [] else none
              | .al s j =>
                match S.cell s j with
                | some (.sl u b xs) =>
                  if h : u = t then
                    bif decide ((xs.length + ys.length) * i.ebytes ≤ 140737488355328) then
                      κ (.al d 0) (some ⟨false, [.sl t b ((h ▸ xs) ++ ys)]⟩) (S.setCell s j (.av .und)).roots []
                    else none
                  else none
                | _ => none
              | .bal s j _ _ =>
                (S.cell s j).bind fun c => (slOf t c).bind fun p =>
                  bif decide ((p.2.length + ys.length) * i.ebytes ≤ 140737488355328) then
                    κ (.al d 0) (some ⟨false, [.sl t p.1 (p.2 ++ ys)]⟩) (S.setCell s j (.av .und)).roots []
                  else none
              | _ => none
            | none => none
          | none => none
        | none => none
      | _, _ => none) = some r) (hS : Rel elid n w g S a) : WOK elid P w g a o d κ r := by
  split at h
  · rename_i b x T T' hargs htys
    cases hT : Nat.beq T T' with
    | false => rw [hT] at h; cases h
    | true =>
      rw [hT] at h
      have hTT := Nat.eq_of_beq_eq_true hT
      subst hTT
      simp only [cond] at h
      split at h
      · rename_i i hi
        split at h
        · rename_i t ht
          split at h
          · rename_i ys hys
            obtain ⟨hu, hid, hok⟩ := (hE T i hi).elem t ht
            obtain ⟨inf, z, i1, i2, i3, i4, i5, i6⟩ := hok.inf
            obtain ⟨ad, cap, news, e2, hcap, hnr, hnl, hn1, hnc⟩ := elems_cells (elemsOf_rep hys hS (hS.ev x))
            have hpos := size_pos t
            have hbb := hS.ev b
            have hnews : ys.length ≠ 0 → ∃ q, ad = some q ∧ ∀ (j : Nat) (u : Value), news[j]? = some u → w.cell? (q.add j) = some u := by
              intro hne
              obtain ⟨b', o', e, hc⟩ := hnc hne
              exact ⟨_, e, fun j u hu => by rw [Addr.add_lit]; exact hc j u hu⟩
            have hrun : ∀ v' w', (Builtin.append_ #[T, T] o.type #[a.eval b, a.eval x]).run P w = .ok v' w' → (execOp a.eval o).run P w = .ok (.value v') w' := by
              intro v' w' hr
              refine run_builtin ho hb (s := Builtin.append_ #[T, T] o.type #[a.eval b, a.eval x]) (fun k => ?_) hr
              rw [two_args hargs, two_types htys]; rfl
            have h63 : ∀ k : Nat, k * i.ebytes ≤ 140737488355328 → k ≤ maxLen := by
              intro k hk
              have : k ≤ k * i.ebytes := Nat.le_mul_of_pos_right _ hok.pos
              simp only [maxLen]; omega
            split at h
            · rename_i hev
              rw [hev] at hbb
              have eb : a.eval b = .slice none 0 0 := by cases hv : a.eval b <;> rw [hv] at hbb <;> cases hbb <;> rfl
              cases hd : decide (ys.length * i.ebytes ≤ 140737488355328) with
              | false => rw [hd] at h; cases h
              | true =>
                rw [hd] at h
                have hd' := of_decide_eq_true hd
                obtain ⟨v', w', hr, hrow', hcase⟩ := run_append3 (P := P) (w := w) o.type hu i1 i4 i2 i3 i5 hpos (World.ownsRow_nil w 0 i.elemT t.size) (ad := ad) (m := ys.length) (c := cap) hnl hnews hn1 (by rw [Nat.zero_add]; exact h63 _ hd') (by rw [Nat.zero_add]; exact hd')
                rw [← e2, ← eb] at hr
                obtain ⟨g', hok⟩ := append_ok (elid := elid) (g := g) (t := t) (xs := []) (ys := ys) (fz := false) (s := 0) (j := 0) (d := d) (vals := []) (news := news) (rs := S.roots) (by rw [← hid]; exact World.ownsRow_nil w 0 i.elemT t.size) .nil hnr
                  (fun b n cap e => by cases e) (by rw [← hid]; exact hrow') (by simpa using hcase) (fun s' r' hr' => ⟨hS.rt s' r' hr', fun _ h => absurd rfl h⟩)
                exact WOK.value h (hrun _ _ hr) hok
            · rename_i s j hev
              rw [hev] at hbb
              obtain ⟨eb, _⟩ := hbb.al_inv
              split at h
              · rename_i u fz xs hcell
                split at h
                · rename_i hut
                  subst hut
                  cases hd : decide ((xs.length + ys.length) * i.ebytes ≤ 140737488355328) with
                  | false => rw [hd] at h; cases h
                  | true =>
                    rw [hd] at h
                    have hd' := of_decide_eq_true hd
                    obtain ⟨root, hroot, hcj⟩ := cell_root hcell
                    have hs := hS.cell hcell
                    obtain ⟨vals, hrow, hvr⟩ := hs.row_rep
                    obtain ⟨v', w', hr, hrow', hcase⟩ := run_append3 (P := P) (w := w) o.type hu i1 i4 i2 i3 i5 hpos (by rw [← hid] at hrow; exact hrow) (ad := ad) (m := ys.length) (c := cap) hnl hnews hn1 (h63 _ hd') hd'
                    rw [← e2, ← eb] at hr
                    obtain ⟨g', hok⟩ := append_ok (elid := elid) (g := g) (t := u) (xs := xs) (ys := ys) (fz := fz) (s := s) (j := j) (d := d) (vals := vals) (news := news) (rs := (S.setCell s j (.av .und)).roots) hrow hvr hnr
                      hs.own (by rw [← hid]; exact hrow') hcase (fun s' r' hr' => by
                        rw [look_setCell hroot] at hr'
                        by_cases hss : s' = s
                        · subst hss
                          rw [if_pos rfl] at hr'
                          cases hr'
                          refine ⟨(hS.root hroot).forget j, fun _ _ t fz xs e => ?_⟩
                          simp only [List.getElem?_set_self'] at e
                          rw [hcj] at e
                          cases e
                        · rw [if_neg hss] at hr'
                          exact ⟨hS.rt s' r' hr', fun h => absurd h hss⟩)
                    exact WOK.value h (hrun _ _ hr) hok
                · cases h
              · cases h
            · rename_i s j _ _ hev
              rw [hev] at hbb
              have eb := hbb.bal_inv.1
              obtain ⟨c', hc', h⟩ := Option.bind_eq_some_iff.1 h
              obtain ⟨p, hp, h⟩ := Option.bind_eq_some_iff.1 h
              have hcell := hc'
              rw [slOf_some' hp] at hcell
              cases hd : decide ((p.2.length + ys.length) * i.ebytes ≤ 140737488355328) with
              | false => rw [hd] at h; cases h
              | true =>
                rw [hd] at h
                have hd' := of_decide_eq_true hd
                obtain ⟨root, hroot, hcj⟩ := cell_root hcell
                have hs := hS.cell hcell
                obtain ⟨vals, hrow, hvr⟩ := hs.row_rep
                obtain ⟨v', w', hr, hrow', hcase⟩ := run_append3 (P := P) (w := w) o.type hu i1 i4 i2 i3 i5 hpos (by rw [← hid] at hrow; exact hrow) (ad := ad) (m := ys.length) (c := cap) hnl hnews hn1 (h63 _ hd') hd'
                rw [← e2, ← eb] at hr
                obtain ⟨g', hok⟩ := append_ok (elid := elid) (g := g) (t := t) (xs := p.2) (ys := ys) (fz := p.1) (s := s) (j := j) (d := d) (vals := vals) (news := news) (rs := (S.setCell s j (.av .und)).roots) hrow hvr hnr
                  hs.own (by rw [← hid]; exact hrow') hcase (fun s' r' hr' => by
                    rw [look_setCell hroot] at hr'
                    by_cases hss : s' = s
                    · subst hss
                      rw [if_pos rfl] at hr'
                      cases hr'
                      refine ⟨(hS.root hroot).forget j, fun _ _ t' fz' xs' e => ?_⟩
                      simp only [List.getElem?_set_self'] at e
                      rw [hcj] at e
                      cases e
                    · rw [if_neg hss] at hr'
                      exact ⟨hS.rt s' r' hr', fun h => absurd h hss⟩)
                exact WOK.value h (hrun _ _ hr) hok
            · cases h
          · cases h
        · cases h
      · cases h
  · cases h

end
end Go.Proofs.YtppmpfddcohkjaaA
