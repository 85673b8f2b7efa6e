/- One operation that leaves what is owned alone: conversions, literals, the builtin functions. -/
import Derived.Test.YtppmpfddcohkjaaStep
import Derived.Laws.BytesArg
namespace Go.Proofs.YtppmpfddcohkjaaA
open Go

section
variable {elid : El → Nat} {n : Nat} {w : World} {g : Gh} {S : St} {a : Act} {P : Program}

theorem RepL.nil : RepL w g [] [] := ⟨rfl, fun j h => by simp at h⟩
theorem RepL.cons {b : AV} {v : Value} {l : List AV} {vs : List Value} (h : RepA w g b v) (hl : RepL w g l vs) : RepL w g (b :: l) (v :: vs) := by
  refine ⟨by simp [hl.1], fun j hj hj' => ?_⟩
  cases j with
  | zero => exact h
  | succ j => exact hl.2 j (by simpa using hj) (by simpa using hj')
theorem RepL.cons_inv {b : AV} {l : List AV} {vs : List Value} (h : RepL w g (b :: l) vs) : ∃ v vs', vs = v :: vs' ∧ RepA w g b v ∧ RepL w g l vs' := by
  obtain ⟨h1, h2⟩ := h
  cases vs with
  | nil => simp at h1
  | cons v vs =>
    refine ⟨v, vs, rfl, h2 0 (by simp) (by simp), by simpa using h1, fun j hj hj' => ?_⟩
    exact h2 (j + 1) (by simp; omega) (by simp; omega)
theorem RepL.nil_inv {vs : List Value} (h : RepL w g [] vs) : vs = [] := List.eq_nil_of_length_eq_zero (by simpa using h.1)
theorem RepL.append {l m : List AV} {vs us : List Value} (h : RepL w g l vs) (h' : RepL w g m us) : RepL w g (l ++ m) (vs ++ us) := by
  refine ⟨by simp [h.1, h'.1], fun j hj hj' => ?_⟩
  rw [List.getElem_append, List.getElem_append]
  have := h.1
  by_cases hlt : j < l.length
  · rw [dif_pos hlt, dif_pos (by omega)]; exact h.2 j hlt (by omega)
  · rw [dif_neg hlt, dif_neg (by omega)]
    simp only [this]
    exact h'.2 (j - l.length) (by simp at hj; omega) (by simp at hj'; omega)
theorem RepL.take {l : List AV} {vs : List Value} (h : RepL w g l vs) (k : Nat) : RepL w g (l.take k) (vs.take k) := by
  refine ⟨by simp [h.1], fun j hj hj' => ?_⟩
  simp only [List.getElem_take]
  exact h.2 j (by simp at hj; omega) (by simp at hj'; omega)
theorem RepL.drop {l : List AV} {vs : List Value} (h : RepL w g l vs) (k : Nat) : RepL w g (l.drop k) (vs.drop k) := by
  refine ⟨by simp [h.1], fun j hj hj' => ?_⟩
  simp only [List.getElem_drop]
  exact h.2 (k + j) (by simp at hj; omega) (by simp at hj'; omega)
theorem RepL.setRange {l m : List AV} {vs us : List Value} (h : RepL w g l vs) (h' : RepL w g m us) (off : Nat) : RepL w g (setRange l off m) (setRange vs off us) := by
  unfold _root_.Go.Proofs.YtppmpfddcohkjaaA.setRange
  rw [h'.1]
  exact ((h.take off).append h').append (h.drop _)
theorem RepL.agg {l : List AV} {vs : List Value} (h : RepL w g l vs) : RepA w g (.agg l) (.agg vs.toArray) := .agg _ _ h.1 h.2
theorem RepL.tup {l : List AV} {vs : List Value} (h : RepL w g l vs) : RepA w g (.tup l) (.tuple vs.toArray) := .tup _ _ h.1 h.2

theorem Rel.evL (h : Rel elid n w g S a) : ∀ xs : List Operand, RepL w g (_root_.Go.Proofs.YtppmpfddcohkjaaA.evL S xs) (xs.map a.eval)
  | [] => .nil
  | x :: xs => .cons (h.ev x) (h.evL xs)

theorem RepA.bal_inv {s j : Nat} {t : El} {xs : List t.den} {v : Value} (h : RepA w g (.bal s j t xs) v) : v = g.hs s j ∧ RepA w g (.L t xs) v := by
  cases h with | bal _ _ _ _ a m c e hL => exact ⟨e.symm, hL⟩
theorem asL_rep {e : El} {b : AV} {xs : List e.den} {v : Value} (h : asL e b = some xs) (hv : RepA w g b v) : RepA w g (.L e xs) v := by
  unfold asL at h
  split at h
  · cases h; cases hv; exact .lnil _ _ _
  · rename_i u ys
    split at h
    · rename_i hu; subst hu; cases h; exact hv
    · cases h
  · rename_i q u ys
    split at h
    · rename_i hu; subst hu; cases h
      cases hv with | nq _ _ _ _ _ _ _ h => exact h
    · cases h
  · split at h
    · rename_i hu; subst hu
      cases h
      exact hv.bal_inv.2
    · cases h
  · cases h

theorem ofCells_rep {t : El} {l : List AV} {x : t.den} {vs : List Value} (h : t.ofCells l = some x) (hl : RepL w g l vs) : RepL w g (t.cells x) vs := by
  unfold El.ofCells at h
  split at h
  · split at h
    · rename_i hk; subst hk; cases h; exact hl
    · cases h
  · cases h; exact hl
  · cases h; exact hl
  · obtain ⟨v, vs', rfl, h1, h2⟩ := hl.cons_inv
    exact .cons (asL_rep h h1) h2
  · cases h; exact hl
  · rename_i q1 q2 q3 q4 q5 q6 ks
    cases hk : asL .arr ks with
    | none => rw [hk] at h; cases h
    | some xs =>
      rw [hk] at h; cases h
      obtain ⟨v1, vs1, rfl, h1, hl⟩ := hl.cons_inv
      obtain ⟨v2, vs2, rfl, h2, hl⟩ := hl.cons_inv
      obtain ⟨v3, vs3, rfl, h3, hl⟩ := hl.cons_inv
      obtain ⟨v4, vs4, rfl, h4, hl⟩ := hl.cons_inv
      obtain ⟨v5, vs5, rfl, h5, hl⟩ := hl.cons_inv
      obtain ⟨v6, vs6, rfl, h6, hl⟩ := hl.cons_inv
      obtain ⟨v7, vs7, rfl, h7, hl⟩ := hl.cons_inv
      exact .cons h1 (.cons h2 (.cons h3 (.cons h4 (.cons h5 (.cons h6 (.cons (asL_rep hk h7) hl))))))
  · rename_i b1 b2 b3
    cases hk : asL (.int .i64) b1 with
    | none => rw [hk] at h; cases h
    | some xs =>
      rw [hk] at h
      simp only [Option.bind_some] at h
      cases hk2 : asL (.int .i64) b2 with
      | none => rw [hk2] at h; cases h
      | some ys =>
        rw [hk2] at h
        simp only [Option.bind_some] at h
        cases hk3 : asL .str b3 with
        | none => rw [hk3] at h; cases h
        | some zs =>
          rw [hk3] at h; cases h
          obtain ⟨v1, vs1, rfl, h1, hl⟩ := hl.cons_inv
          obtain ⟨v2, vs2, rfl, h2, hl⟩ := hl.cons_inv
          obtain ⟨v3, vs3, rfl, h3, hl⟩ := hl.cons_inv
          exact .cons (asL_rep hk h1) (.cons (asL_rep hk2 h2) (.cons (asL_rep hk3 h3) hl))
  · cases h; exact hl
  · cases h

theorem ofCells_leaves {t : El} {b : AV} {x : t.den} (h : t.ofCells b.leaves = some x) : b ≠ .und ∧ ∀ cs, b ≠ .tup cs := by
  refine ⟨fun e => ?_, fun cs e => ?_⟩
  · subst e; cases t <;> simp [AV.leaves, El.ofCells, asL] at h
  · subst e; cases t <;> simp [AV.leaves, El.ofCells, asL] at h

/-! ### Conversions -/
/-- The list that a slice's value stands for, in memory. -/
theorem elemsOf_rep {t : El} {x : AV} {xs : List t.den} {v : Value} (h : elemsOf S t x = some xs) (hS : Rel elid n w g S a) (hv : RepA w g x v) :
    ∃ ad cap, v = .slice ad xs.length cap ∧ xs.length ≤ cap ∧ (xs ≠ [] → ∃ (b o : Nat) (vals : Nat → Value), ad = some ⟨b, o, none⟩ ∧ ∀ j (h : j < (flat t xs).length), w.cell? ⟨b, o + j, none⟩ = some (vals j) ∧ RepA w g ((flat t xs)[j]) (vals j)) := by
  have fin : asL t x = some xs → ∃ ad cap, v = .slice ad xs.length cap ∧ xs.length ≤ cap ∧ (xs ≠ [] → ∃ (b o : Nat) (vals : Nat → Value), ad = some ⟨b, o, none⟩ ∧ ∀ j (h : j < (flat t xs).length), w.cell? ⟨b, o + j, none⟩ = some (vals j) ∧ RepA w g ((flat t xs)[j]) (vals j)) := by
    intro h
    obtain ⟨ad, cap, e1, e2, e3⟩ := (asL_rep h hv).L_inv
    refine ⟨ad, cap, e1, e2, fun hne => ?_⟩
    obtain ⟨b, o, vals, e4, e5, e6⟩ := e3 hne
    exact ⟨b, o, vals, e4, fun j hj => ⟨(e5 j hj).2, e6 j hj⟩⟩
  have own : ∀ (s j : Nat) {fz : Bool} {xs : List t.den}, S.cell s j = some (.sl t fz xs) → v = g.hs s j → ∃ ad cap, v = .slice ad xs.length cap ∧ xs.length ≤ cap ∧ (xs ≠ [] → ∃ (b o : Nat) (vals : Nat → Value), ad = some ⟨b, o, none⟩ ∧ ∀ j (h : j < (flat t xs).length), w.cell? ⟨b, o + j, none⟩ = some (vals j) ∧ RepA w g ((flat t xs)[j]) (vals j)) := by
    intro s j fz ys hc e
    have hs := hS.cell hc
    obtain ⟨⟨vals, hrow, _, _⟩, _⟩ := hS.cell hc
    rcases hrow.2 with ⟨e2, hz⟩ | ⟨b, cap, cur, e2, _, _, hcap, _⟩
    · exact ⟨none, 0, by rw [e, e2, hz], by omega, fun hne => absurd (List.eq_nil_of_length_eq_zero hz) hne⟩
    · refine ⟨_, cap, by rw [e, e2], hcap, fun _ => ?_⟩
      obtain ⟨vals, _, hcells⟩ := hs.cells e2
      exact ⟨b, 0, vals, rfl, fun j hj => by rw [Nat.zero_add]; exact hcells j hj⟩
  unfold elemsOf at h
  split at h
  · rename_i s j
    split at h
    · rename_i u fz ys hc
      split at h
      · rename_i hu; subst hu
        have hys : ys = xs := by simpa using h
        subst hys
        have hs := hS.cell hc
        obtain ⟨⟨vals, hrow, _, _⟩, _⟩ := hS.cell hc
        have e := hv.al_inv.1
        exact own s j hc e
      · cases h
    · cases h
  · exact fin h

theorem flat_int (k : IntKind) (xs : List Int) : flat (.int k) xs = xs.map (AV.int k) := by
  induction xs with
  | nil => rfl
  | cons x xs ih => show [AV.int k x] ++ flat (.int k) xs = _; rw [ih]; rfl

theorem bytes_rep {xs : List Int} {v : Value} {src dst e : TypeId} (hs : P.underlying src = some (.slice e)) (he : P.underlying e = some (.int .u8)) (hd : P.underlying dst = some .string)
    (h : ∃ ad cap, v = .slice ad xs.length cap ∧ xs.length ≤ cap ∧ (xs ≠ [] → ∃ (b o : Nat) (vals : Nat → Value), ad = some ⟨b, o, none⟩ ∧ ∀ j (h : j < (flat (.int .u8) xs).length), w.cell? ⟨b, o + j, none⟩ = some (vals j) ∧ RepA w g ((flat (.int .u8) xs)[j]) (vals j))) :
    (convert src dst v).run P w = .ok (.string ⟨(strOfBytes xs).toArray⟩) w := by
  obtain ⟨ad, cap, rfl, hcap, hc⟩ := h
  have hfin : strOfNums xs = ⟨(strOfBytes xs).toArray⟩ := rfl
  rw [← hfin]
  cases ad with
  | none =>
    have hx : xs = [] := by
      rcases List.eq_nil_or_concat xs with h | ⟨l, b, h⟩
      · exact h
      · obtain ⟨b, o, vals, e, _⟩ := hc (by rw [h]; simp)
        cases e
    subst hx
    exact run_convert_bytes_nil w src e hs he _ _ dst hd
  | some q =>
    by_cases hx : xs = []
    · subst hx
      have := run_convert_bytes_string (P := P) w src dst e (some q) 0 cap hs he hd
      simp only [List.length_nil]
      rw [this]
      have hl : (loadCells q 0).run P w = .ok #[] w := by
        have := run_loadCells_list (P := P) w q [] (fun j v hj => by simp at hj)
        simpa using this
      rw [run_bytesToString w q 0 cap [] (by simpa using hl)]
      rfl
    · obtain ⟨b, o, vals, e', hcell⟩ := hc hx
      cases e'
      refine run_convert_bytes_arg w src e hs he b o xs.length cap xs rfl (fun i hi => ?_) dst hd
      have hi' : i < (flat (.int .u8) xs).length := by rw [flat_int]; simpa using hi
      obtain ⟨h1, h2⟩ := hcell i hi'
      rw [h1]
      simp only [flat_int, List.getElem_map] at h2
      rw [h2.int_inv]
      simp [List.getD, hi]

theorem stepV_convert {R : Type} {E : TypeId → Option TyI} (hE : ∀ T i, E T = some i → TyOK P elid T i) {o : Oper} {κ : AV → Option Root → Option R} {r : R} {src dst : TypeId} {x : Operand} {d : Nat}
    (ho : o.op = .convert src dst x) (h : (match E src, E dst with
    | some i, some j =>
      match S.ev x, j.kind with
      | .int _ n, some k => κ (.int k (k.wrap n)) none
      | .int _ _, none => none
      | .str s, _ => bif j.str then κ (.str s) none else none
      | a, _ =>
        bif j.str then
          match i.elem with
          | some (.int .u8) => (match elemsOf S (.int .u8) a with | some l => κ (.str (strOfBytes l)) none | none => none)
          | _ => none
        else none
    | _, _ => none) = some r) (hS : Rel elid n w g S a) : VOK elid P w g a o d κ r := by
  split at h
  · rename_i i j hi hj
    have hxx := hS.ev x
    obtain ⟨d1, hd1, _⟩ := (hE src i hi).agg
    split at h
    · rename_i k' m k hx hk
      rw [hx] at hxx
      have e1 := hxx.int_inv
      refine .pure h ?_ (.int _ _)
      unfold execOp; rw [ho]
      refine run_value ?_
      rw [e1]
      simp [convert, run_underlying hd1, run_underlying ((hE dst j hj).kind k hk), Conv.intToInt]
    · cases h
    · rename_i s hx
      cases hs : j.str with
      | false => rw [hs] at h; cases h
      | true =>
        rw [hs] at h
        rw [hx] at hxx
        have e1 := hxx.str_inv
        refine .pure h ?_ (.str _)
        unfold execOp; rw [ho]
        refine run_value ?_
        rw [e1]
        simp [convert, run_underlying hd1, run_underlying ((hE dst j hj).str hs)]
    · cases hs : j.str with
      | false => rw [hs] at h; cases h
      | true =>
        rw [hs] at h
        simp only [cond] at h
        split at h
        · rename_i hel
          split at h
          · rename_i l hl
            obtain ⟨hu, _, hok⟩ := (hE src i hi).elem _ hel
            refine .pure h ?_ (.str _)
            unfold execOp; rw [ho]
            exact run_value (bytes_rep hu (hok.int _ rfl) ((hE dst j hj).str hs) (elemsOf_rep hl hS hxx))
          · cases h
        · cases h
  · cases h

/-! ### Literals -/
theorem mapM_of_get {α β : Type} {F : α → Option β} : ∀ {fs : List α} {l : List β}, fs.length = l.length → (∀ (j : Nat) f p, fs[j]? = some f → l[j]? = some p → F f = some p) → fs.mapM F = some l
  | [], [], _, _ => by simp
  | f :: fs, p :: l, hl, h => by
    have h1 := h 0 f p (by simp) (by simp)
    have h2 := mapM_of_get (F := F) (fs := fs) (l := l) (by simpa using hl) (fun (j : Nat) f p h3 h4 => h (j + 1) f p (by simpa using h3) (by simpa using h4))
    simp [List.mapM_cons, h1, h2]
  | [], _ :: _, hl, _ => by simp at hl
  | _ :: _, [], hl, _ => by simp at hl

theorem foldl_setRange (off : Nat) (l : List Value) (cs : Array Value) (h : off + l.length ≤ cs.size) :
    ((l.zipIdx 0).foldl (fun cs (x : Value × Nat) => cs.setIfInBounds (off + x.2) x.1) cs).toList = setRange cs.toList off l := by
  obtain ⟨h1, h2⟩ := Great.foldl_set off l 0 cs
  apply List.ext_getElem?
  intro k
  rw [Array.getElem?_toList, h2 k]
  unfold setRange
  have hlen : (cs.toList.take off).length = off := by simp; omega
  rw [List.append_assoc]
  rcases Nat.lt_or_ge k off with hk | hk
  · rw [if_neg (by omega), List.getElem?_append_left (by omega), List.getElem?_take, if_pos hk, Array.getElem?_toList]
  · rw [List.getElem?_append_right (by omega), hlen]
    rcases Nat.lt_or_ge (k - off) l.length with hk2 | hk2
    · rw [if_pos (by omega), List.getElem?_append_left hk2]
      simp
    · rw [if_neg (by omega), List.getElem?_append_right hk2, List.getElem?_drop, Array.getElem?_toList]
      congr 1; omega

theorem fill_rep {fields : List (Nat × Nat × Nat)} : ∀ {parts : List (Nat × Operand)} {cs out : List AV} {vs : Array Value}, setParts (fun _ => none) fields (parts.map fun p => (p.1, S.ev p.2)) cs = some out → Rel elid n w g S a →
    RepL w g cs vs.toList → ∃ us, Instr.fill ((fields.map fun p => (p.1, p.2.1)).toArray[·]?) vs (parts.map fun p => (p.1, a.eval p.2)) = some us ∧ RepL w g out us.toList
  | [], cs, out, vs, h, _, hr => by
    simp only [List.map_nil, setParts, Option.some.injEq] at h
    subst h
    exact ⟨vs, rfl, hr⟩
  | p :: parts, cs, out, vs, h, hS, hr => by
    simp only [List.map_cons, setParts] at h
    cases hf : fields[p.1]? with
    | none => rw [hf] at h; cases h
    | some q =>
      obtain ⟨off, size, U⟩ := q
      rw [hf] at h
      simp only at h
      cases hc : (S.ev p.2).isVal && (Nat.beq (S.ev p.2).leaves.length size && Nat.ble (off + size) cs.length) with
      | false => rw [hc] at h; cases h
      | true =>
        rw [hc] at h
        simp only [Bool.and_eq_true] at hc
        obtain ⟨c1, c2, c3⟩ := hc
        have c2 := Nat.eq_of_beq_eq_true c2
        have c3 := Nat.le_of_ble_eq_true c3
        obtain ⟨v1, v2⟩ := isVal_und c1
        have hl := leaves_rep (hS.ev p.2) v1 v2
        have hsz : (a.eval p.2).cells.size = size := by rw [← c2, ← hl.1]; simp
        have hcs : cs.length = vs.size := by rw [← hr.1]; simp
        have hset := foldl_setRange off (a.eval p.2).cells.toList vs (by simp; omega)
        obtain ⟨us, h1, h2⟩ := fill_rep (parts := parts) (vs := (((a.eval p.2).cells.toList.zipIdx 0).foldl (fun cs (x : Value × Nat) => cs.setIfInBounds (off + x.2) x.1) vs)) h hS (by rw [hset]; exact hr.setRange hl off)
        refine ⟨us, ?_, h2⟩
        rw [← h1]
        simp only [List.map_cons]
        rw [Instr.fill]
        simp only [List.getElem?_toArray, List.getElem?_map, hf, Option.map_some]
        rw [if_neg (by simp; omega)]
        congr 1
        rw [← Array.foldl_toList, Array.toList_zipIdx]

theorem setParts_E (E E' : TypeId → Option TyI) (fields : List (Nat × Nat × Nat)) : ∀ (ps : List (Nat × AV)) (cs : List AV), setParts E fields ps cs = setParts E' fields ps cs
  | [], _ => rfl
  | (i, a) :: ps, cs => by
    simp only [setParts]
    split
    · rw [setParts_E E E' fields ps]
    · rfl

theorem stepV_build {R : Type} {E : TypeId → Option TyI} (hE : ∀ T i, E T = some i → TyOK P elid T i) {o : Oper} {κ : AV → Option Root → Option R} {r : R} {T : TypeId} {parts : Array (Nat × Operand)} {d : Nat}
    (ho : o.op = .build T parts) (h : (match E T with
    | some i => bif i.fields.isEmpty then none else (match setParts E i.fields (parts.toList.map fun p => (p.1, S.ev p.2)) i.zero with | some cs => κ (.agg cs) none | none => none)
    | none => none) = some r) (hS : Rel elid n w g S a) : VOK elid P w g a o d κ r := by
  split at h
  · rename_i i hi
    cases hem : i.fields.isEmpty with
    | true => rw [hem] at h; cases h
    | false =>
      rw [hem] at h
      simp only [cond] at h
      split at h
      · rename_i cs hcs
        have hT := hE T i hi
        obtain ⟨inf, z, z1, z2, z3⟩ := hT.zero
        obtain ⟨fs, f1, f2⟩ := hT.nflds (by intro e; rw [e] at hem; cases hem)
        rw [setParts_E E (fun _ => none)] at hcs
        obtain ⟨us, h1, h2⟩ := fill_rep (vs := z.cells) hcs hS (zeroLeaves_rep z3)
        have hpl : fs.toList.mapM (fun f => (P.info? f.type).map fun i => (f.offset, i.size)) = some (i.fields.map fun p => (p.1, p.2.1)) := by
          refine mapM_of_get (by simp [f2]) (fun j f p hj hp => ?_)
          simp only [List.getElem?_map] at hp
          cases hq : i.fields[j]? with
          | none => rw [hq] at hp; cases hp
          | some q =>
            obtain ⟨off, m, U⟩ := q
            rw [hq] at hp
            simp only [Option.map_some, Option.some.injEq] at hp
            obtain ⟨fs', fd, inf', g1, g2, g3, g4, g5, g6, g7⟩ := hT.flds j off m U hq
            rw [f1] at g1; cases g1
            have : fd = f := by simpa [g2] using hj
            subst this
            rw [g4, g5, g3]; simp [g6, ← hp]
        refine .pure h ?_ h2.agg
        unfold execOp; rw [ho]
        refine run_value ?_
        have := run_build (P := P) w T (parts.map fun (i, x) => (i, a.eval x)) us (by
          unfold Program.built
          simp only [z1, f1, z2, hpl]
          rw [← h1]; congr 1
          simp)
        simpa using this
      · cases h
  · cases h

/-! ### New rows -/
def gRow (w : World) (g : Gh) (d : Nat) (v : Value) : Gh :=
  ⟨fun b o => if b = w.heap.size then .obj d (some 0) else g.who b o, fun s j => if s = d then v else g.hs s j, g.hb⟩

theorem VOK.row {R : Type} {o : Oper} {d : Nat} {κ : AV → Option Root → Option R} {r : R} {t : El} {xs : List t.den} {w' : World} {cap : Nat} {vals : List Value} (h : κ (.al d 0) (some ⟨false, [.sl t false xs]⟩) = some r)
    (hr : (execOp a.eval o).run P w = .ok (.value (.slice (some ⟨w.heap.size, 0, none⟩) xs.length cap)) w')
    (hg : w.grownBy w' none) (hrow : w'.ownsRow 0 (elid t) t.size (.slice (some ⟨w.heap.size, 0, none⟩) xs.length cap) xs.length vals) (hl : RepL w g (flat t xs) vals) :
    VOK elid P w g a o d κ r := by
  have hne : ∀ b, b < w.heap.size → ¬ b = w.heap.size := fun b hb => by omega
  have hq : Quiet w g w' (gRow w g d (.slice (some ⟨w.heap.size, 0, none⟩) xs.length cap)) d := by
    refine ⟨.of_below ⟨hg.os, hg.tape, hg.output, hg.size, fun b hb => hg.block b hb (by simp)⟩ _, ⟨?_, ?_, ?_, ?_, ?_, ?_⟩, ?_⟩
    · intro b o hb h; simp [gRow, hne b hb, h]
    · intro b o hb h; simp [gRow, hne b hb, h]
    · intro b o hb h; simp [gRow, hne b hb, h]
    · intro b o s x hb hn h; simp [gRow, hne b hb, h]
    · intro s j hn; simp [gRow, show ¬ s = d from hn]
    · intro s hn; rfl
    · intro b o hb; simp [gRow, hne b hb]
  have hv : (gRow w g d (.slice (some ⟨w.heap.size, 0, none⟩) xs.length cap)).hs d 0 = .slice (some ⟨w.heap.size, 0, none⟩) xs.length cap := by simp [gRow]
  refine ⟨_, _, _, _, _, h, hr, hq, .al d 0 _ _ _ hv, fun e => (by cases e), ?_⟩
  intro q hqq
  cases hqq
  refine ⟨fun _ j t' fz xs' hj => ?_, fun e => (by cases e)⟩
  cases j with
  | succ j => simp [killC] at hj
  | zero =>
    simp only [killC, Cell.kill, List.getElem?_cons_zero, Option.some.injEq] at hj
    cases hj
    refine ⟨⟨vals, by rw [hv]; exact hrow, hl.1, fun i h h' => (hl.2 i h h').quiet hq (flat_avoids _ t xs _ (List.getElem_mem h))⟩, ?_⟩
    intro b m c e
    rw [hv] at e
    cases e
    refine ⟨?_, fun o => by simp [gRow]⟩
    rcases hrow.2 with ⟨e, _⟩ | ⟨b', c', cur, e, _, hh, _⟩
    · cases e
    · cases e
      exact (Array.getElem?_eq_some_iff.mp hh).1

theorem partsOf_rep {t : El} : ∀ {parts : List (Nat × Operand)} {k : Nat} {xs : List t.den}, partsOf t k (parts.map fun p => (p.1, S.ev p.2)) = some xs → Rel elid n w g S a →
    ∃ vs : List Value, (parts.map fun p => (p.1, a.eval p.2)) = (vs.zipIdx k).map (fun x => (x.2, x.1)) ∧ vs.length = xs.length ∧ (∀ v ∈ vs, v.cells.size = t.size) ∧ RepL w g (flat t xs) (vs.flatMap fun v => v.cells.toList)
  | [], k, xs, h, _ => by
    simp only [List.map_nil, partsOf, Option.some.injEq] at h
    subst h
    exact ⟨[], rfl, rfl, fun v hv => by simp at hv, .nil⟩
  | p :: parts, k, xs, h, hS => by
    simp only [List.map_cons, partsOf] at h
    cases hb : Nat.beq p.1 k with
    | false => rw [hb] at h; cases h
    | true =>
      rw [hb] at h
      simp only [cond] at h
      have hk := Nat.eq_of_beq_eq_true hb
      cases hx : t.ofCells (S.ev p.2).leaves with
      | none => rw [hx] at h; cases h
      | some x =>
        rw [hx] at h
        simp only [Option.bind_some] at h
        cases hr : partsOf t (k + 1) (parts.map fun p => (p.1, S.ev p.2)) with
        | none => rw [hr] at h; cases h
        | some ys =>
          rw [hr] at h
          simp only [Option.map_some, Option.some.injEq] at h
          subst h
          obtain ⟨vs, h1, h2, h3, h4⟩ := partsOf_rep (parts := parts) hr hS
          obtain ⟨v1, v2⟩ := ofCells_leaves hx
          have hl := ofCells_rep hx (leaves_rep (hS.ev p.2) v1 v2)
          refine ⟨a.eval p.2 :: vs, ?_, by simp [h2], ?_, ?_⟩
          · simp [h1, hk]
          · intro v hv
            rcases List.mem_cons.mp hv with rfl | hv
            · have := hl.1; rw [cells_length] at this; simpa using this
            · exact h3 v hv
          · exact hl.append h4

theorem stepV_buildSlice {R : Type} {E : TypeId → Option TyI} (hE : ∀ T i, E T = some i → TyOK P elid T i) {o : Oper} {κ : AV → Option Root → Option R} {r : R} {T : TypeId} {m : Nat} {parts : Array (Nat × Operand)} {d : Nat}
    (ho : o.op = .buildSlice T m parts) (h : (match E T with
    | some i =>
      match i.elem with
      | some t =>
        match partsOf t 0 (parts.toList.map fun p => (p.1, S.ev p.2)) with
        | some l => bif Nat.beq l.length m && Nat.ble (m * t.size) 16777216 then κ (.al d 0) (some ⟨false, [.sl t false l]⟩) else none
        | none => none
      | none => none
    | none => none) = some r) (hS : Rel elid n w g S a) : VOK elid P w g a o d κ r := by
  split at h
  · rename_i i hi
    split at h
    · rename_i t ht
      split at h
      · rename_i l hl
        cases hc : Nat.beq l.length m && Nat.ble (m * t.size) 16777216 with
        | false => rw [hc] at h; cases h
        | true =>
          rw [hc] at h
          simp only [Bool.and_eq_true] at hc
          have c1 := Nat.eq_of_beq_eq_true hc.1
          have c2 := Nat.le_of_ble_eq_true hc.2
          subst c1
          obtain ⟨vs, h1, h2, h3, h4⟩ := partsOf_rep hl hS
          obtain ⟨hu, hid, hok⟩ := (hE T i hi).elem t ht
          obtain ⟨inf, z, i1, i2, i3, i4, i5, _⟩ := hok.inf
          have hpos := size_pos t
          have hrun : (Instr.buildSlice T l.length (parts.map fun (i, x) => (i, a.eval x))).run P w = .ok (.slice (some ⟨w.heap.size, 0, none⟩) l.length l.length) (w.alloc (.cells (vs.flatMap fun v => v.cells.toList).toArray i.elemT)) := by
            have hfill : ∀ cells : Array Value, cells.size = l.length * t.size → Instr.fill (fun i => some (i * t.size, t.size)) cells (parts.map fun (i, x) => (i, a.eval x)).toList = some (vs.flatMap fun v => v.cells.toList).toArray := by
              intro cells hcs
              rw [← Great.fill_whole hpos vs cells h3 (by rw [h2, hcs]), ← h1]
              congr 1
              simp
            by_cases h0 : l.length = 0
            · simp only [h0]
              have := hfill #[] (by simp [h0])
              simp only [Array.toList_map] at this
              simp [Instr.buildSlice, run_underlying hu, sizeOf, typeInfo, i1, i2, newRow]
              have h00 : Array.map (fun x => (default : Value)) (Array.range 0) = #[] := by simp
              rw [h00, this]
              simp
            · refine run_buildSlice w T i.elemT _ _ _ inf z hu i1 i4 (by rw [i2]; omega) (by rw [i2]; exact Nat.mul_ne_zero h0 (by omega)) ?_
              rw [i2]
              exact hfill _ (by simp)
          have hlen : (vs.flatMap fun v => v.cells.toList).length = l.length * t.size := by rw [h4.1, flat_length]
          refine VOK.row (t := t) (xs := l) (cap := l.length) (w' := w.alloc (.cells (vs.flatMap fun v => v.cells.toList).toArray i.elemT)) (vals := vs.flatMap fun v => v.cells.toList) h ?_ (World.grownBy_alloc _ _ _) ?_ h4
          · unfold execOp; rw [ho]; exact run_value hrun
          · rw [← hid]
            have := World.ownsRow_lit (base := 0) (e := i.elemT) (size := t.size) w (vs.flatMap fun v => v.cells.toList).toArray l.length (Nat.zero_le _) (by
              have : l.length * 1 ≤ l.length * t.size := Nat.mul_le_mul_left _ hpos
              simp only [maxLen]; omega) (by simpa using hlen)
            simpa using this
      · cases h
    · cases h
  · cases h

theorem flat_replicate {t : El} {x : t.den} {vs : List Value} (h : RepL w g (t.cells x) vs) (k : Nat) : RepL w g (flat t (List.replicate k x)) (List.replicate k vs).flatten := by
  induction k with
  | zero => exact .nil
  | succ k ih =>
    have e : flat t (List.replicate (k + 1) x) = t.cells x ++ flat t (List.replicate k x) := rfl
    rw [e, List.replicate_succ, List.flatten_cons]
    exact h.append ih

theorem madeCells_flatten (z : Array Value) (k : Nat) (hz : 0 < z.size) : (madeCells z (k * z.size)).toList = (List.replicate k z.toList).flatten := by
  induction k with
  | zero => simp [madeCells]
  | succ k ih =>
    rw [List.replicate_succ', List.flatten_append, ← ih]
    apply List.ext_getElem?
    intro j
    simp only [madeCells, Array.getElem?_toList, List.flatten_cons, List.flatten_nil, List.append_nil]
    have hsz : (madeCells z (k * z.size)).toList.length = k * z.size := by simp [madeCells]
    rcases Nat.lt_or_ge j (k * z.size) with h | h
    · rw [List.getElem?_append_left (by simpa [madeCells] using h)]
      have h2 : j < (k + 1) * z.size := by rw [Nat.add_mul]; omega
      simp [h, h2]
    · rw [List.getElem?_append_right (by simpa [madeCells] using h)]
      rcases Nat.lt_or_ge j ((k + 1) * z.size) with h2 | h2
      · have h3 : j - k * z.size < z.size := by rw [Nat.add_mul, Nat.one_mul] at h2; omega
        have h4 : j % z.size = j - k * z.size := by
          have : j = (j - k * z.size) + z.size * k := by have hkc := Nat.mul_comm k z.size; omega
          conv => lhs; rw [this]
          rw [Nat.add_mul_mod_self_left, Nat.mod_eq_of_lt h3]
        simp [h2, h3, h4]
      · have h3 : z.size ≤ j - k * z.size := by rw [Nat.add_mul] at h2; omega
        rw [Array.getElem?_eq_none (by simpa using h2)]
        simp only [Array.toList_map, Array.toList_range, List.length_map, List.length_range]
        rw [List.getElem?_eq_none (by simpa using h3)]

theorem rep_flat {α : Type} (x : α) : ∀ q, (List.replicate q [x]).flatten = List.replicate q x
  | 0 => rfl
  | q + 1 => by rw [List.replicate_succ, List.flatten_cons, rep_flat x q]; rfl
def gBoxes (w : World) (g : Gh) (d : Nat) : Gh :=
  ⟨fun b o => if b = w.heap.size then .obj d none else g.who b o, fun s j => if s = d then .slice none 0 0 else g.hs s j, fun s => if s = d then (w.heap.size, 0) else g.hb s⟩
theorem VOK.boxes {R : Type} {o : Oper} {d : Nat} {κ : AV → Option Root → Option R} {r : R} {e : El} {m : Nat} {w' : World} {T : TypeId} (h : κ (.bs d m) (some ⟨true, List.replicate m (.sl e true [])⟩) = some r)
    (hr : (execOp a.eval o).run P w = .ok (.value (.slice (some ⟨w.heap.size, 0, none⟩) m m)) w') (hg : w.grownBy w' none)
    (hrow : w'.ownsRow 0 T 1 (.slice (some ⟨w.heap.size, 0, none⟩) m m) m (List.replicate m (.slice none 0 0))) : VOK elid P w g a o d κ r := by
  have hne : ∀ b, b < w.heap.size → ¬ b = w.heap.size := fun b hb => by omega
  have hq : Quiet w g w' (gBoxes w g d) d := by
    refine ⟨.of_below ⟨hg.os, hg.tape, hg.output, hg.size, fun b hb => hg.block b hb (by simp)⟩ _, ⟨?_, ?_, ?_, ?_, ?_, ?_⟩, ?_⟩
    · intro b o hb h; simp [gBoxes, hne b hb, h]
    · intro b o hb h; simp [gBoxes, hne b hb, h]
    · intro b o hb h; simp [gBoxes, hne b hb, h]
    · intro b o s x hb hn h; simp [gBoxes, hne b hb, h]
    · intro s j hn; simp [gBoxes, show ¬ s = d from hn]
    · intro s hn; simp [gBoxes, show ¬ s = d from hn]
    · intro b o hb; simp [gBoxes, hne b hb]
  have hb : (gBoxes w g d).hb d = (w.heap.size, 0) := by simp [gBoxes]
  refine ⟨_, _, _, _, _, h, hr, hq, ?_, fun e => (by cases e), ?_⟩
  · have := RepA.bs (w := w') (g := gBoxes w g d) d m m (Nat.le_refl _)
    rw [hb] at this
    exact this
  · intro q hqq
    cases hqq
    refine ⟨fun e => (by cases e), fun _ => ⟨fun _ => .slice none 0 0, fun j hj => ?_⟩⟩
    rw [killC_length, List.length_replicate] at hj
    rcases hrow.2 with ⟨e1, _⟩ | ⟨b, cap, cur, e1, _, hh, h1, h2, h3, h4⟩
    · cases e1
    · cases e1
      rw [hb]
      have hcur : cur.toList = List.replicate m (.slice none 0 0) := by
        rw [← h4, List.take_of_length_le]
        rw [Array.length_toList, h3]; exact Nat.le_refl _
      have hcell : w'.cell? ⟨w.heap.size, 0 + j, none⟩ = some (.slice none 0 0) := by
        have : cur[j]? = some (.slice none 0 0) := by
          rw [← Array.getElem?_toList, hcur]
          simp [hj]
        rw [Nat.zero_add]
        simp only [World.cell?, hh]
        simpa using this
      refine ⟨block_lt hcell, by simp [gBoxes], hcell, ?_, ?_⟩
      · simp only [World.frozen?, hh]
        rfl
      · have hc : (killC d (List.replicate m (Cell.sl e true [])))[j]? = some (.sl e true []) := by
          rw [killC_get]; simp [hj, Cell.kill]
        obtain ⟨q1, q2⟩ := List.getElem?_eq_some_iff.mp hc
        show RepC elid _ _ d j ((killC d (List.replicate m (Cell.sl e true [])))[j]) _
        rw [q2]
        have hs : (gBoxes w g d).hs d j = .slice none 0 0 := by simp [gBoxes]
        have := RepC.sl (elid := elid) (w := w') (g := gBoxes w g d) (s := d) (j := j) e true [] ⟨⟨[], by rw [hs]; exact ⟨by simp, .inl ⟨rfl, rfl⟩⟩, rfl, fun i h => by cases h⟩, fun b n cap e => by rw [hs] at e; cases e⟩
        rw [hs] at this
        exact this

theorem stepV_makeSlice {R : Type} {E : TypeId → Option TyI} (hE : ∀ T i, E T = some i → TyOK P elid T i) {o : Oper} {κ : AV → Option Root → Option R} {r : R} {T : TypeId} {x y : Operand} {d : Nat}
    (ho : o.op = .makeSlice T x y) (h : (match E T, S.ev x, S.ev y with
    | some i, .int _ n, .int _ m =>
      match i.elem with
      | some (.list e) =>
        match i.ezero with
        | [.nils] => bif n == m && (decide (0 ≤ n) && decide (n * (i.ebytes : Int) ≤ 140737488355328)) then κ (.bs d n.toNat) (some ⟨true, List.replicate n.toNat (.sl e true [])⟩) else none
        | _ => none
      | some t =>
        match t.ofCells i.ezero with
        | some x => bif n == m && (decide (0 ≤ n) && decide (n * (i.ebytes : Int) ≤ 140737488355328)) then κ (.al d 0) (some ⟨false, [.sl t false (List.replicate n.toNat x)]⟩) else none
        | none => none
      | none => none
    | _, _, _ => none) = some r) (hS : Rel elid n w g S a) : VOK elid P w g a o d κ r := by
  split at h
  · rename_i i k m k' m' hi hx hy
    split at h
    · rename_i t ht
      split at h
      · rename_i he
        cases hc : (m == m' && (decide (0 ≤ m) && decide (m * (i.ebytes : Int) ≤ 140737488355328))) with
        | false => rw [hc] at h; cases h
        | true =>
          rw [hc] at h
          simp only [Bool.and_eq_true, beq_iff_eq, decide_eq_true_eq] at hc
          obtain ⟨c1, c2, c3⟩ := hc
          subst c1
          have hxx := hS.ev x; have hyy := hS.ev y
          rw [hx] at hxx; rw [hy] at hyy
          have e1 := hxx.int_inv; have e2 := hyy.int_inv
          obtain ⟨hu, hid, hok⟩ := (hE T i hi).elem _ ht
          obtain ⟨inf, z, i1, i2, i3, i4, i5, i6⟩ := hok.inf
          have hb0 := hok.pos
          obtain ⟨q, rfl⟩ : ∃ q : Nat, m = (q : Int) := ⟨m.toNat, by omega⟩
          have hq1 : q * i.ebytes ≤ 140737488355328 := by
            have : ((q * i.ebytes : Nat) : Int) ≤ 140737488355328 := by rw [Int.natCast_mul]; exact c3
            omega
          have hq2 : q ≤ q * i.ebytes := Nat.le_mul_of_pos_right _ hb0
          obtain ⟨w', hr, hrow, hg⟩ := run_make_full (P := P) w 0 T i.elemT inf z 1 hu i1 i4 i2 k k' q (by rw [i3, Nat.mul_comm]; omega) (by simp only [maxLen]; omega) (Nat.zero_le _)
          have hzs : RepL w g [.nils] z.cells.toList := by rw [he] at i6; exact zeroLeaves_rep i6
          have hz : z.cells.toList = [.slice none 0 0] := by
            obtain ⟨v, vs, e, h1, h2⟩ := hzs.cons_inv
            rw [e, h2.nil_inv]
            cases h1; rfl
          have hmade : (madeCells z.cells (q * 1)).toList = List.replicate q (.slice none 0 0) := by
            have h1 : z.cells.size = 1 := i5
            have := madeCells_flatten z.cells q (by omega)
            rw [h1] at this
            rw [this, hz]
            exact rep_flat _ q
          rw [hmade] at hrow
          simp only [Int.toNat_natCast] at h
          refine VOK.boxes (m := q) h ?_ hg hrow
          unfold execOp; rw [ho]
          refine run_value ?_
          rw [e1, e2]; simpa using hr
      · cases h
    · rename_i t hnl ht
      split at h
      · rename_i e he
        cases hc : (m == m' && (decide (0 ≤ m) && decide (m * (i.ebytes : Int) ≤ 140737488355328))) with
        | false => rw [hc] at h; cases h
        | true =>
          rw [hc] at h
          simp only [Bool.and_eq_true, beq_iff_eq, decide_eq_true_eq] at hc
          obtain ⟨c1, c2, c3⟩ := hc
          subst c1
          have hxx := hS.ev x; have hyy := hS.ev y
          rw [hx] at hxx; rw [hy] at hyy
          have e1 := hxx.int_inv; have e2 := hyy.int_inv
          obtain ⟨hu, hid, hok⟩ := (hE T i hi).elem t ht
          obtain ⟨inf, z, i1, i2, i3, i4, i5, i6⟩ := hok.inf
          have hb0 := hok.pos
          obtain ⟨q, rfl⟩ : ∃ q : Nat, m = (q : Int) := ⟨m.toNat, by omega⟩
          have hq1 : q * i.ebytes ≤ 140737488355328 := by
            have : ((q * i.ebytes : Nat) : Int) ≤ 140737488355328 := by rw [Int.natCast_mul]; exact c3
            omega
          have hq2 : q ≤ q * i.ebytes := Nat.le_mul_of_pos_right _ hb0
          obtain ⟨w', hr, hrow, hg⟩ := run_make_full (P := P) w 0 T i.elemT inf z t.size hu i1 i4 i2 k k' q (by rw [i3, Nat.mul_comm]; omega) (by simp only [maxLen]; omega) (Nat.zero_le _)
          have hcells : RepL w g (t.cells e) z.cells.toList := ofCells_rep he (zeroLeaves_rep i6)
          have hl : RepL w g (flat t (List.replicate q e)) (madeCells z.cells (q * t.size)).toList := by
            rw [← i5, madeCells_flatten _ _ (by rw [i5]; exact size_pos t)]
            exact flat_replicate hcells q
          simp only [Int.toNat_natCast] at h
          refine VOK.row (t := t) (xs := List.replicate q e) (cap := q) (w' := w') h ?_ hg ?_ hl
          · unfold execOp; rw [ho]
            refine run_value ?_
            rw [e1, e2]; simpa using hr
          · rw [← hid]; simpa using hrow
      · cases h
    · cases h
  · cases h

/-! ### Functions, the builtin ones -/
theorem stepV_makeFunc {R : Type} {o : Oper} {κ : AV → Option Root → Option R} {r : R} {f : FuncId} {first captured : Array Operand} {d : Nat}
    (ho : o.op = .makeFunc (.func f) first captured) (h : (bif first.isEmpty then κ (.fn f (evL S captured.toList)) none else none) = some r) (hS : Rel elid n w g S a) : VOK elid P w g a o d κ r := by
  cases he : first.isEmpty with
  | false => rw [he] at h; cases h
  | true =>
    rw [he] at h
    have hl := hS.evL captured.toList
    have hf : first = #[] := by simpa using he
    refine .pure h ?_ (.fn f _ _ hl.1 hl.2)
    unfold execOp; rw [ho]
    refine run_value ?_
    simp only [Instr.makeFunc, hf, Sem.run_pure]
    congr 1
    simp only [Array.map_empty, Value.func.injEq, true_and]
    apply Array.toList_inj.mp; simp

theorem run_builtin {o : Oper} {c : Call} {b : Builtin} {s : Sem Value} {v : Value} {w' : World} (ho : o.op = .call c) (hb : c.callee = .builtin b)
    (hd : ∀ k, builtin b c.argTypes o.type k (c.args.map a.eval) = (do pure (.value (← s)))) (hr : s.run P w = .ok v w') : (execOp a.eval o).run P w = .ok (.value v) w' := by
  unfold execOp; rw [ho]
  simp [resolve, hb, invoke, hd, hr]

theorem stepV_len {R : Type} {E : TypeId → Option TyI} (hE : ∀ T i, E T = some i → TyOK P elid T i) {o : Oper} {κ : AV → Option Root → Option R} {r : R} {c : Call} {d : Nat}
    (ho : o.op = .call c) (hb : c.callee = .builtin .len) (h : (match c.args.toList, c.argTypes.toList with | [x], [T] => lenK S (E T) (S.ev x) fun a => κ a none | _, _ => none) = some r)
    (hS : Rel elid n w g S a) : VOK elid P w g a o d κ r := by
  split at h
  · rename_i x T hx hT
    have hargs : c.args.map a.eval = #[a.eval x] := by
      apply Array.toList_inj.mp; simp [hx]
    have htys : c.argTypes = #[T] := by
      apply Array.toList_inj.mp; simp [hT]
    have hxx := hS.ev x
    have fin : ∀ (m : Nat) (hr : (Builtin.len_ #[T] o.type #[a.eval x]).run P w = .ok (goInt m) w), κ (.int .i64 (m : Int)) none = some r → VOK elid P w g a o d κ r := by
      intro m hr hκ
      refine .pure hκ (run_builtin ho hb (s := Builtin.len_ #[T] o.type #[a.eval x]) (fun k => ?_) hr) (.int _ _)
      rw [hargs, htys]; rfl
    have sl : ∀ (i : TyI), E T = some i → i.elem.isSome = true → ∀ ad m cap, a.eval x = .slice ad m cap → (Builtin.len_ #[T] o.type #[a.eval x]).run P w = .ok (goInt m) w := by
      intro i hi he ad m cap e
      obtain ⟨t, ht⟩ := Option.isSome_iff_exists.mp he
      obtain ⟨hu, _⟩ := (hE T i hi).elem t ht
      rw [e]
      simp [Builtin.len_, run_underlying hu]
    unfold lenK at h
    split at h
    · rename_i i hi
      split at h
      · rename_i s hs
        rw [hs] at hxx
        have e := hxx.str_inv
        cases hq : i.str with
        | false => rw [hq] at h; cases h
        | true =>
          rw [hq] at h
          refine fin s.length ?_ h
          rw [e]
          have := run_len_string (P := P) w T o.type ⟨s.toArray⟩ ((hE T i hi).str hq)
          rw [this, bytes_size]
      · rename_i t xs hs
        rw [hs] at hxx
        obtain ⟨ad, cap, e, _⟩ := hxx.L_inv
        cases hq : i.elem.isSome with
        | false => rw [hq] at h; cases h
        | true => rw [hq] at h; exact fin _ (sl i hi hq _ _ _ e) h
      · rename_i hs
        rw [hs] at hxx
        have e : a.eval x = .slice none 0 0 := by cases hv : a.eval x <;> rw [hv] at hxx <;> cases hxx <;> rfl
        cases hq : i.elem.isSome with
        | false => rw [hq] at h; cases h
        | true => rw [hq] at h; exact fin _ (sl i hi hq _ _ _ e) h
      · rename_i s j hs
        rw [hs] at hxx
        split at h
        · rename_i t fz xs hc
          cases hq : i.elem.isSome with
          | false => rw [hq] at h; cases h
          | true =>
            rw [hq] at h
            have e := hxx.al_inv.1
            have hs := hS.cell hc
            obtain ⟨⟨vals, hrow, _, _⟩, _⟩ := hs
            rcases hrow.2 with ⟨e2, hz⟩ | ⟨b, cap, cur, e2, _⟩
            · exact fin _ (sl i hi hq none 0 0 (by rw [e, e2])) (by rw [hz] at h; exact h)
            · exact fin _ (sl i hi hq _ _ _ (by rw [e, e2])) h
        · cases h
      · rename_i s m hs
        rw [hs] at hxx
        cases hq : i.elem.isSome with
        | false => rw [hq] at h; cases h
        | true =>
          rw [hq] at h
          cases hv : a.eval x <;> rw [hv] at hxx <;> cases hxx
          rw [hv] at sl fin
          exact fin _ (sl i hi hq _ _ _ rfl) h
      · rename_i _ _ t xs hs
        rw [hs] at hxx
        obtain ⟨ad, cap, e, _⟩ := hxx.bal_inv.2.L_inv
        cases hq : i.elem.isSome with
        | false => rw [hq] at h; cases h
        | true => rw [hq] at h; exact fin _ (sl i hi hq _ _ _ e) h
      · cases h
    · cases h
  · cases h

theorem evL_int2 {xs : List Operand} {k k' : IntKind} {p q : Int} (h : evL S xs = [.int k p, .int k' q]) (hS : Rel elid n w g S a) : xs.map a.eval = [.int k p, .int k' q] := by
  have hl := hS.evL xs
  rw [h] at hl
  obtain ⟨v1, vs1, e1, h1, hl⟩ := hl.cons_inv
  obtain ⟨v2, vs2, e2, h2, hl⟩ := hl.cons_inv
  rw [e1, e2, hl.nil_inv, h1.int_inv, h2.int_inv]
theorem evL_int3 {xs : List Operand} {k k' k'' : IntKind} {p q e : Int} (h : evL S xs = [.int k p, .int k' q, .int k'' e]) (hS : Rel elid n w g S a) : xs.map a.eval = [.int k p, .int k' q, .int k'' e] := by
  have hl := hS.evL xs
  rw [h] at hl
  obtain ⟨v1, vs1, e1, h1, hl⟩ := hl.cons_inv
  obtain ⟨v2, vs2, e2, h2, hl⟩ := hl.cons_inv
  obtain ⟨v3, vs3, e3, h3, hl⟩ := hl.cons_inv
  rw [e1, e2, e3, hl.nil_inv, h1.int_inv, h2.int_inv, h3.int_inv]

theorem cond_ite {α : Type} (p : Prop) [Decidable p] (x y : α) : (bif decide p then x else y) = if p then x else y := by
  by_cases h : p <;> simp [h]

theorem stepV_max {R : Type} {o : Oper} {κ : AV → Option Root → Option R} {r : R} {c : Call} {d : Nat}
    (ho : o.op = .call c) (hb : c.callee = .builtin .max) (h : (match evL S c.args.toList with
      | [.int k a, .int k' b] => if k = k' then κ (.int k (bif decide (b > a) then b else a)) none else none
      | [.int k a, .int k' b, .int k'' e] => if k = k' then if k = k'' then κ (.int k (let m := bif decide (b > a) then b else a; bif decide (e > m) then e else m)) none else none else none
      | _ => none) = some r) (hS : Rel elid n w g S a) : VOK elid P w g a o d κ r := by
  split at h
  · rename_i k p k' q he
    split at h
    · rename_i hk; subst hk
      have := evL_int2 he hS
      have hargs : c.args.map a.eval = #[.int k p, .int k q] := by apply Array.toList_inj.mp; simpa using this
      refine .pure h (run_builtin ho hb (s := Builtin.max_ c.argTypes o.type (c.args.map a.eval)) (fun _ => rfl) ?_) (.int _ _)
      rw [hargs]
      simp [Builtin.max_, Builtin.max2, cond_ite]
    · cases h
  · rename_i k p k' q k'' e he
    split at h
    · rename_i hk; subst hk
      split at h
      · rename_i hk; subst hk
        have := evL_int3 he hS
        have hargs : c.args.map a.eval = #[.int k p, .int k q, .int k e] := by apply Array.toList_inj.mp; simpa using this
        refine .pure h (run_builtin ho hb (s := Builtin.max_ c.argTypes o.type (c.args.map a.eval)) (fun _ => rfl) ?_) (.int _ _)
        rw [hargs]
        simp [Builtin.max_, Builtin.max2, cond_ite]
      · cases h
    · cases h
  · cases h
theorem stepV_min {R : Type} {o : Oper} {κ : AV → Option Root → Option R} {r : R} {c : Call} {d : Nat}
    (ho : o.op = .call c) (hb : c.callee = .builtin .min) (h : (match evL S c.args.toList with
      | [.int k a, .int k' b] => if k = k' then κ (.int k (bif decide (b < a) then b else a)) none else none
      | _ => none) = some r) (hS : Rel elid n w g S a) : VOK elid P w g a o d κ r := by
  split at h
  · rename_i k p k' q he
    split at h
    · rename_i hk; subst hk
      have := evL_int2 he hS
      have hargs : c.args.map a.eval = #[.int k p, .int k q] := by apply Array.toList_inj.mp; simpa using this
      refine .pure h (run_builtin ho hb (s := Builtin.min_ c.argTypes o.type (c.args.map a.eval)) (fun _ => rfl) ?_) (.int _ _)
      rw [hargs]
      simp [Builtin.min_, Builtin.min2, cond_ite]
    · cases h
  · cases h

/-- ANY QUIET OPERATION BUT A CALL OF A FUNCTION. -/
theorem stepV_sound {R : Type} {E : TypeId → Option TyI} (hE : ∀ T i, E T = some i → TyOK P elid T i) {o : Oper} {κ : AV → Option Root → Option R} {r : R}
    (h : stepV E o S κ = some r) (hS : Rel elid n w g S a) : VOK elid P w g a o (match o.dst with | some d => d | none => 0) κ r := by
  unfold stepV at h
  simp only at h
  split at h
  · rename_i x ho; exact stepV_move (.inl ho) h hS
  · rename_i x ho; exact stepV_move (.inr ho) h hS
  · rename_i ho; exact stepV_pick ho h hS
  · rename_i ho; exact stepV_nilCheck ho h hS
  · rename_i ho; exact stepV_binOp hE ho h hS
  · rename_i ho; exact stepV_unOp ho h hS
  · rename_i ho; exact stepV_extract ho h hS
  · rename_i ho; exact stepV_alloc hE ho h
  · rename_i ho; exact stepV_box ho h hS
  · rename_i ho; exact stepV_load hE ho h hS
  · rename_i ho; exact stepV_fieldAddr hE ho h hS
  · rename_i ho; exact stepV_field hE ho h hS
  · rename_i ho; exact stepV_indexAddr hE ho h hS
  · rename_i ho; exact stepV_index hE ho h hS
  · rename_i ho; exact stepV_slice hE ho h hS
  · rename_i ho; exact stepV_convert hE ho h hS
  · rename_i ho; exact stepV_build hE ho h hS
  · rename_i ho; exact stepV_buildSlice hE ho h hS
  · rename_i ho; exact stepV_makeSlice hE ho h hS
  · rename_i ho; exact stepV_makeFunc ho h hS
  · rename_i c ho
    split at h
    · rename_i hb; exact stepV_len hE ho hb h hS
    · rename_i hb; exact stepV_max ho hb h hS
    · rename_i hb; exact stepV_min ho hb h hS
    · cases h
  · cases h

end
end Go.Proofs.YtppmpfddcohkjaaA
