/- Arrays: the value of a row, by the document; no condition but the sizes that a machine has. -/
import Derived.Test.YtppmpfddcohkjaaPDec
import Derived.Test.YtppmpfddcohkjaaPArr7
namespace Go.Proofs.YtppmpfddcohkjaaP
open Go Go.Proofs.YtppmpfddcohkjaaA

/-- The number of the first run whose end is above a row. -/
def runFrom (s : List UInt8) (row : Nat) : Nat → Nat → Nat
  | 0, i => i
  | f + 1, i => if eN s i ≤ (row : Int) then runFrom s row f (i + 1) else i
def runIx (s : List UInt8) (row : Nat) : Nat := runFrom s row 65 0
/-- The value of a row, counted from the first one on. -/
def valA : Nat → List Nod → Int → Arr → Nat → List UInt8
  | 0, _, _, _, _ => []
  | f + 1, t, a, x, row =>
    if thereB x.valid row = false then [110]
    else if x.layout = 1 then valA f t a (kidA x 0) ((kidA x 0).offset + eN x.data row).toNat
    else if x.layout = 2 then valA f t a (kidA x 0) ((kidA x 0).offset.toNat + runIx x.data row)
    else if knd t a.toNat = 0 then intT (numOf ((x.data.take (8 * row + 8)).drop (8 * row)))
    else if knd t a.toNat = 1 then boolT (onB x.data row)
    else if knd t a.toNat = 2 then bytesT ((x.data.take (eN x.ends (row + 1)).toNat).drop (eN x.ends row).toNat)
    else if knd t a.toNat = 3 then listT ((List.range' (eN x.ends row).toNat ((eN x.ends (row + 1)).toNat - (eN x.ends row).toNat)).map fun j => valA f t (ksT t a 0) (kidA x 0) ((kidA x 0).offset.toNat + j))
    else structT ((List.range (kidsL t a).length).map fun j => valA f t (ksT t a j) (kidA x j) ((kidA x j).offset.toNat + row))

/-! ### What an array that may be has -/
structure Plain (t : List Nod) (i : Nat) (x : Arr) : Prop where
  kids : x.kids.length = (kidsL t (i : Int)).length
  may : ∀ j, j < x.kids.length → arrB t (ksT t (i : Int) j) (kidA x j) = true
  kind : kindM t i x = true
structure One (t : List Nod) (i : Nat) (x : Arr) : Prop where
  leaf : inner (knd t i) = false
  ends : x.ends = []
  kids : x.kids.length = 1
  flat : (kidA x 0).layout = 0
  may : arrB t (i : Int) (kidA x 0) = true
theorem arrB_plain {t : List Nod} {i : Nat} {x : Arr} (h : arrB t (i : Int) x = true) (hl : x.layout = 0) : Plain t i x := by
  rw [arrB_eq, if_pos hl] at h
  simp only [Bool.and_eq_true, decide_eq_true_eq, range_all_iff, Int.toNat_natCast] at h
  exact ⟨h.2.2.1, h.2.2.2.1, h.2.2.2.2⟩
theorem arrB_one {t : List Nod} {i : Nat} {x : Arr} (h : arrB t (i : Int) x = true) (hl : x.layout ≠ 0) : One t i x ∧ ((x.layout = 1 ∧ dictB x (kidA x 0) = true) ∨ (x.layout = 2 ∧ runB x (kidA x 0) = true)) := by
  rw [arrB_eq, if_neg hl] at h
  simp only [Bool.and_eq_true, decide_eq_true_eq, Int.toNat_natCast, Bool.not_eq_true', beq_iff_eq] at h
  obtain ⟨_, _, h1, h2, h3, h4, h5, h6⟩ := h
  refine ⟨⟨h1, h2, h3, h4, h5⟩, ?_⟩
  split at h6
  · rename_i hl; exact .inl ⟨hl, h6⟩
  · split at h6
    · rename_i hl; exact .inr ⟨hl, h6⟩
    · cases h6
theorem arrB_len {t : List Nod} {a : Int} {x : Arr} (h : arrB t a x = true) : 0 ≤ x.offset ∧ 0 ≤ x.length ∧ x.offset + x.length ≤ 64 := by
  obtain ⟨_, hb⟩ := arrB_buf h
  exact ⟨hb.off, hb.len, hb.rows⟩
theorem endsB_at {s : List UInt8} {rows : Nat} {m f p : Int} (h : endsB s rows m f p = true) {i : Nat} (hi : i < rows) :
    okN s i = true ∧ okN s (i + 1) = true ∧ 0 ≤ eN s i ∧ eN s i ≤ eN s (i + 1) ∧ eN s (i + 1) ≤ m ∧ (f ≤ (i : Int) → eN s (i + 1) - eN s i ≤ p) := by
  unfold endsB at h
  rw [range_all_iff] at h
  have h0 := h i (by omega)
  have h1 := h (i + 1) (by omega)
  unfold endOK at h0 h1
  simp only [Bool.and_eq_true, Bool.or_eq_true, decide_eq_true_eq, Nat.add_sub_cancel] at h0 h1
  have g := okN_good h0.1
  rcases h1.2.2 with e | ⟨e1, e2⟩
  · omega
  · exact ⟨h0.1, h1.1, g.1, e1, h1.2.1, fun hf => by rcases e2 with e2 | e2 <;> omega⟩
theorem okN_fits {s : List UInt8} {i : Nat} (h : okN s i = true) : 4 * i + 4 ≤ s.length := by
  unfold okN numA get at h
  split at h
  · rename_i h1; omega
  · cases h
theorem okN_num {s : List UInt8} {i : Nat} (h : okN s i = true) : numOf ((s.take (4 * i + 4)).drop (4 * i)) = eN s i := by
  unfold okN numA get at h
  unfold eN numA get
  split at h
  · rename_i h1
    rw [if_pos h1]
    split at h
    · cases h
    · rename_i h2
      rw [if_neg h2]
      have e1 : (4 * (i : Int)).toNat = 4 * i := by omega
      have e2 : (4 * (i : Int) + 4).toNat = 4 * i + 4 := by omega
      rw [e1, e2]
  · cases h
theorem num_slice {k : Nat} (hk : 11 ≤ k) {s : List UInt8} {i w : Nat} (hw : w ≤ 8) (h : i + w ≤ s.length) : quiverref1_Num.f idb k ((s.take (i + w)).drop i) = some (numOf ((s.take (i + w)).drop i)) := by
  refine ref_Num_ok hk _ ?_
  rw [List.length_drop, List.length_take]; omega
theorem runFrom_spec {s : List UInt8} {row m : Nat} (hm : (row : Int) < eN s m) : ∀ f i, i ≤ m → m < i + f → runFrom s row f i ≤ m ∧ i ≤ runFrom s row f i ∧ (row : Int) < eN s (runFrom s row f i)
  | 0, i, h1, h2 => by omega
  | f + 1, i, h1, h2 => by
    unfold runFrom
    split
    · rename_i h
      have hne : i ≠ m := fun e => by subst e; omega
      have := runFrom_spec hm f (i + 1) (by omega) (by omega)
      exact ⟨this.1, by omega, this.2.2⟩
    · exact ⟨h1, Nat.le_refl _, by omega⟩
theorem runB_at {x kid : Arr} (h : runB x kid = true) (hl : 0 ≤ kid.length ∧ kid.length ≤ 64) {row : Nat} (hr : (row : Int) < x.offset + x.length) :
    ∃ m : Nat, (m : Int) + 1 = kid.length ∧ (row : Int) < eN x.data m ∧ (∀ i, i ≤ m → okN x.data i = true) ∧ x.data.length = 4 * (m + 1) ∧ x.valid = [] := by
  unfold runB at h
  simp only [Bool.and_eq_true, decide_eq_true_eq, range_all_iff, beq_iff_eq] at h
  obtain ⟨h0, h1, h2, h3⟩ := h
  have hpos : kid.length.toNat ≠ 0 := by
    intro e
    rw [e] at h3
    have : lastE x.data 0 = 0 := rfl
    omega
  refine ⟨kid.length.toNat - 1, by omega, ?_, fun i hi => (h2 i (by omega)).1, by omega, h0⟩
  unfold lastE at h3
  rw [if_neg hpos] at h3
  omega
theorem dictB_at {x kid : Arr} (h : dictB x kid = true) {row : Nat} (h0 : x.offset ≤ (row : Int)) (hr : row < rowsN x) (hth : thereB x.valid row = true) : okN x.data row = true ∧ 0 ≤ eN x.data row ∧ eN x.data row < kid.length ∧ kid.valid = [] := by
  unfold dictB at h
  simp only [Bool.and_eq_true, decide_eq_true_eq, range_all_iff, beq_iff_eq] at h
  have := h.2.2 row hr
  simp only [Bool.or_eq_true, decide_eq_true_eq, Bool.and_eq_true, Bool.not_eq_true'] at this
  rcases this with e | e | ⟨e1, e2⟩
  · omega
  · rw [hth] at e; cases e
  · exact ⟨e1, (okN_good e1).1, e2, h.1⟩

/-! ### Sizes -/
theorem flat_len {α : Type} {B : Nat} : ∀ (l : List α) (f : α → List UInt8), (∀ y ∈ l, (f y).length ≤ B) → (l.map f).flatten.length ≤ l.length * B
  | [], _, _ => by simp
  | y :: l, f, h => by
    have h1 := h y List.mem_cons_self
    have h2 := flat_len l f fun z hz => h z (List.mem_cons_of_mem _ hz)
    rw [List.map_cons, List.flatten_cons, List.length_append, List.length_cons, Nat.add_mul]
    omega
theorem pow_step (n m : Nat) (h : n < m) : 66 * 66 ^ n ≤ 66 ^ m := by
  obtain ⟨d, rfl⟩ : ∃ d, m = n + 1 + d := ⟨m - (n + 1), by omega⟩
  rw [Nat.pow_add, Nat.pow_succ, Nat.mul_comm 66]
  exact Nat.le_mul_of_pos_right _ (Nat.pow_pos (by omega))
theorem valA_len : ∀ (f : Nat) (t : List Nod) (a : Int) (x : Arr) (row : Nat), need t a x < f → arrB t a x = true → x.offset ≤ (row : Int) → row < rowsN x → (valA f t a x row).length ≤ 40 * 66 ^ (t.length - a.toNat)
  | 0, _, _, _, _, h, _, _, _ => absurd h (Nat.not_lt_zero _)
  | f + 1, t, a, x, row, hf, hb, h0, hr => by
    obtain ⟨hn, hB⟩ := arrB_buf hb
    obtain ⟨hm, i, hi, rfl⟩ := nodeB_may hn
    have hrw := hB.rowsEq
    have hrl := hB.rowsN_le
    have hp : 0 < 66 ^ (t.length - ((i : Nat) : Int).toNat) := Nat.pow_pos (by omega)
    have htl := mayT_length hm
    unfold valA
    split
    · simp only [List.length_cons, List.length_nil]; omega
    · rename_i hth
      have hth' : thereB x.valid row = true := by simpa using hth
      split
      · rename_i hl
        obtain ⟨ho, hd⟩ := arrB_one hb (by omega)
        rcases hd with ⟨_, hd⟩ | ⟨hl2, _⟩
        · obtain ⟨d1, d2, d3, d4⟩ := dictB_at hd h0 hr hth'
          have hk := arrB_len ho.may
          exact valA_len f t (i : Int) (kidA x 0) _ (by unfold need at hf ⊢; rw [if_neg (by omega)] at hf; rw [if_pos ho.flat]; omega) ho.may (by omega) (by unfold rowsN; omega)
        · omega
      · rename_i hl1
        split
        · rename_i hl
          obtain ⟨ho, hd⟩ := arrB_one hb (by omega)
          rcases hd with ⟨hl2, _⟩ | ⟨_, hd⟩
          · omega
          · have hk := arrB_len ho.may
            obtain ⟨m, m1, m2, m3, m4, m5⟩ := runB_at hd (by omega) (row := row) (by omega)
            have hx := runFrom_spec m2 65 0 (by omega) (by omega)
            have hix : runIx x.data row ≤ m := hx.1
            exact valA_len f t (i : Int) (kidA x 0) _ (by unfold need at hf ⊢; rw [if_neg (by omega)] at hf; rw [if_pos ho.flat]; omega) ho.may (by omega) (by unfold rowsN; omega)
        · rename_i hl2
          have hl0 : x.layout = 0 := by
            by_cases e : x.layout = 0
            · exact e
            · obtain ⟨_, hd⟩ := arrB_one hb e
              rcases hd with ⟨e, _⟩ | ⟨e, _⟩
              · exact absurd e hl1
              · exact absurd e hl2
          have hP := arrB_plain hb hl0
          split
          · have := digT_len (numOf ((x.data.take (8 * row + 8)).drop (8 * row)))
            unfold intT; simp only [List.length_append, List.length_cons, List.length_nil]; omega
          · rename_i hk00
            split
            · unfold boolT; split <;> (simp only [List.length_cons, List.length_nil]; omega)
            · rename_i hk1
              split
              · rename_i hk2
                have hkd := hP.kind
                unfold kindM at hkd
                rw [Int.toNat_natCast] at hk2
                rw [if_neg (by omega), if_neg (by omega), if_pos hk2] at hkd
                have := endsB_at hkd hr
                have h16 := this.2.2.2.2.2 h0
                unfold bytesT
                have hd := dec_len (List.drop (eN x.ends row).toNat (List.take (eN x.ends (row + 1)).toNat x.data)).length
                have hdl : (List.drop (eN x.ends row).toNat (List.take (eN x.ends (row + 1)).toNat x.data)).length ≤ 16 := by rw [List.length_drop, List.length_take]; omega
                simp only [List.length_append, List.length_cons, List.length_nil]; omega
              · rename_i hk2
                split
                · rename_i hk3
                  have hkd := hP.kind
                  unfold kindM at hkd
                  rw [Int.toNat_natCast] at hk1 hk2 hk3
                  rw [if_neg (by omega), if_neg (by omega), if_neg (by omega), if_pos hk3] at hkd
                  simp only [Bool.and_eq_true] at hkd
                  have he := endsB_at hkd.2 hr
                  have h1 : (kidsL t (i : Int)).length = 1 := by
                    have := (((mayT_iff t).1 hm).2.2 i hi).1
                    unfold kidsB at this
                    rw [hk3] at this
                    simpa using this
                  have hk0 : 0 < x.kids.length := by rw [hP.kids]; omega
                  have hmk := hP.may 0 hk0
                  have hkl := arrB_len hmk
                  obtain ⟨q, q1, q2, q3⟩ := ksT_gt hm (i := i) (j := 0) (by omega)
                  have hnk := need_kid hm (x := x) (kidA x 0) (i := i) (j := 0) (by omega)
                  have hfl := flat_len (B := 40 * 66 ^ (t.length - q)) (List.range' (eN x.ends row).toNat ((eN x.ends (row + 1)).toNat - (eN x.ends row).toNat)) (fun j => valA f t (ksT t (i : Int) 0) (kidA x 0) ((kidA x 0).offset.toNat + j)) (fun j hj => by
                    rw [List.mem_range'_1] at hj
                    have := valA_len f t (ksT t (i : Int) 0) (kidA x 0) ((kidA x 0).offset.toNat + j) (by omega) hmk (by omega) (by unfold rowsN; omega)
                    rw [q1, Int.toNat_natCast] at this
                    rw [q1]
                    exact this)
                  rw [List.length_range'] at hfl
                  have hps := pow_step (t.length - q) (t.length - ((i : Nat) : Int).toNat) (by omega)
                  have h64 : ((eN x.ends (row + 1)).toNat - (eN x.ends row).toNat) * (40 * 66 ^ (t.length - q)) ≤ 64 * (40 * 66 ^ (t.length - q)) := Nat.mul_le_mul_right _ (by omega)
                  have hp' : 0 < 66 ^ (t.length - q) := Nat.pow_pos (by omega)
                  unfold listT
                  simp only [List.length_append, List.length_cons, List.length_nil]; omega
                · rename_i hk3
                  rw [Int.toNat_natCast] at hk00 hk1 hk2 hk3
                  have hkl := kidsU_length t (i : Int) t.length
                  have hfl := flat_len (B := 40 * 66 ^ (t.length - (i + 1))) (List.range (kidsL t (i : Int)).length) (fun j => valA f t (ksT t (i : Int) j) (kidA x j) ((kidA x j).offset.toNat + row)) (fun j hj => by
                    rw [List.mem_range] at hj
                    have hj' : j < x.kids.length := by rw [hP.kids]; exact hj
                    have hmk := hP.may j hj'
                    have hkl := arrB_len hmk
                    have hnk := need_kid hm (x := x) (kidA x j) hj
                    obtain ⟨q, q1, q2, q3⟩ := ksT_gt hm hj
                    have hkd := hP.kind
                    unfold kindM at hkd
                    rw [if_neg hk00, if_neg hk1, if_neg hk2, if_neg hk3] at hkd
                    simp only [Bool.and_eq_true, Bool.not_eq_true', List.any_eq_false, decide_eq_true_eq] at hkd
                    have hlong := hkd.2.2 _ (kidA_mem hj')
                    have := valA_len f t (ksT t (i : Int) j) (kidA x j) ((kidA x j).offset.toNat + row) (by omega) hmk (by omega) (by unfold rowsN at hr ⊢; omega)
                    rw [q1, Int.toNat_natCast] at this
                    rw [q1]
                    exact Nat.le_trans this (Nat.mul_le_mul_left _ (Nat.pow_le_pow_right (by omega) (by omega))))
                  rw [List.length_range] at hfl
                  have hps := pow_step (t.length - (i + 1)) (t.length - ((i : Nat) : Int).toNat) (by omega)
                  have h64 : (kidsL t (i : Int)).length * (40 * 66 ^ (t.length - (i + 1))) ≤ 8 * (40 * 66 ^ (t.length - (i + 1))) := Nat.mul_le_mul_right _ (by unfold kidsL; omega)
                  have hp' : 0 < 66 ^ (t.length - (i + 1)) := Nat.pow_pos (by omega)
                  unfold structT
                  simp only [List.length_append, List.length_cons, List.length_nil]; omega

end Go.Proofs.YtppmpfddcohkjaaP
