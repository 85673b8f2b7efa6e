/- The program's reading of values' texts: what its taker does to any text; no condition but the sizes that a machine has. The program's parts of a text, and what fits a leaf: the program's answer and the document's are one; no condition but the sizes that a machine has. Which columns may be a leaf's; what a page's parts are, and what the program puts: no condition but the sizes that a machine has. The document's test of a column, sums, values' bytes, and what the program puts into a page; no condition but the sizes that a machine has. What the program puts into a page: its answer in plain lists; no condition but the sizes that a machine has. Unlike columns have unlike pages; columns that are the same; no condition but the sizes that a machine has. -/
import Derived.Test.YtjkokaockhecnaaGreatDoorPPh0
import Derived.Lib.AtoiAllCases
import Derived.Test.YtjkokaockhecnaaGreatDoorPPgA
namespace Go.Proofs.YtjkokaockhecnaaGreatDoorP
open Go Go.Proofs.YtjkokaockhecnaaGreatDoorA

/-! ### The library -/
theorem index_hit (c : UInt8) : ∀ (p q : List UInt8), c ∉ p → Lib.index (p ++ c :: q) [c] = (p.length : Int)
  | [], q, _ => by simp [Lib.index, List.isPrefixOf]
  | b :: p, q, h => by
    have hb : ¬ c = b := fun e => h (by rw [e]; exact List.mem_cons_self)
    have ih := index_hit c p q fun hm => h (List.mem_cons_of_mem _ hm)
    rw [List.cons_append, Lib.index, ih]
    have e1 : List.isPrefixOf [c] (b :: (p ++ c :: q)) = false := by simp [List.isPrefixOf, hb]
    rw [e1]
    have e2 : (((p.length : Nat) : Int) == -1) = false := by rw [beq_eq_false_iff_ne]; omega
    rw [e2]
    simp
theorem index_miss (c : UInt8) : ∀ (s : List UInt8), c ∉ s → Lib.index s [c] = -1
  | [], _ => by simp [Lib.index]
  | b :: s, h => by
    have hb : ¬ c = b := fun e => h (by rw [e]; exact List.mem_cons_self)
    have ih := index_miss c s fun hm => h (List.mem_cons_of_mem _ hm)
    rw [Lib.index, ih]
    have e1 : List.isPrefixOf [c] (b :: s) = false := by simp [List.isPrefixOf, hb]
    rw [e1]
    simp
theorem cut_hit {c : UInt8} {p q : List UInt8} (h : c ∉ p) : Lib.cut (p ++ c :: q) [c] = (p, q, true) := by
  unfold Lib.cut
  rw [index_hit c p q h, if_pos (by omega), Int.toNat_natCast]
  simp
theorem cut_miss {c : UInt8} {s : List UInt8} (h : c ∉ s) : Lib.cut s [c] = (s, [], false) := by
  unfold Lib.cut
  rw [index_miss c s h, if_neg (by omega)]
theorem cut_any (c : UInt8) : ∀ (s : List UInt8), (∃ p q, s = p ++ c :: q ∧ c ∉ p) ∨ c ∉ s
  | [] => .inr (by simp)
  | b :: s => by
    by_cases hb : c = b
    · subst hb; exact .inl ⟨[], s, rfl, by simp⟩
    · rcases cut_any c s with ⟨p, q, rfl, h⟩ | h
      · exact .inl ⟨b :: p, q, rfl, by simp [hb, h]⟩
      · exact .inr (by simp [hb, h])
theorem Cut_ok {k : Nat} (hk : 1 ≤ k) {s sep : List UInt8} (hs : s.length ≤ 4000000000) : strings_Cut.f idb k s sep = some (Lib.cut s sep) := by
  obtain ⟨k, rfl⟩ : ∃ q, k = q + 1 := ⟨k - 1, by omega⟩
  rw [strings_Cut.f_eq]
  unfold extCut
  rw [dT (by omega)]; rfl
theorem vItoa_ok {k : Nat} (hk : 1 ≤ k) {x : Int} (h : In64 x) : strconv_Itoa.f idb k x = some (digT x) := by
  obtain ⟨k, rfl⟩ : ∃ q, k = q + 1 := ⟨k - 1, by omega⟩
  obtain ⟨h0, h1⟩ := h
  rw [strconv_Itoa.f_eq]
  unfold extItoa
  rw [dT h0, dT h1, itoa_eq h0 h1]; rfl
theorem atoiSat_in (l : List UInt8) : In64 (Lib.atoiSat l) := by unfold Lib.atoiSat In64; split <;> omega
theorem Atoi_any {k : Nat} (hk : 1 ≤ k) {l : List UInt8} (hl : l.length ≤ 4000000000) : ∃ x b, strconv_Atoi.f idb k l = some (x, b) ∧ In64 x := by
  obtain ⟨k, rfl⟩ : ∃ q, k = q + 1 := ⟨k - 1, by omega⟩
  rw [strconv_Atoi.f_eq]
  unfold extAtoi
  rw [dT (by omega)]
  simp only [cond]
  split
  · rename_i v hv; exact ⟨_, _, rfl, Lib.atoiAll_bounds hv⟩
  · exact ⟨_, _, rfl, by unfold In64; omega⟩
  · exact ⟨_, _, rfl, atoiSat_in l⟩
theorem parse_dbytes : ∀ (ds : List Nat) (acc : Nat), (∀ d ∈ ds, d < 10) → ds.foldl (fun a d => 10 * a + d) acc < 18446744073709551616 → Lib.parseUint10 acc (dbytes ds) = .ok (ds.foldl (fun a d => 10 * a + d) acc)
  | [], acc, _, _ => rfl
  | d :: ds, acc, h, hv => by
    have hd := h d List.mem_cons_self
    have mono : ∀ (ds : List Nat) (a : Nat), a ≤ ds.foldl (fun a d => 10 * a + d) a := by
      intro ds
      induction ds with
      | nil => intro a; exact Nat.le_refl _
      | cons d ds ih => intro a; exact Nat.le_trans (by omega) (ih (10 * a + d))
    have hm := mono ds (10 * acc + d)
    rw [List.foldl_cons] at hv ⊢
    have e : dbytes (d :: ds) = UInt8.ofNat (48 + d) :: dbytes ds := rfl
    have ec : (UInt8.ofNat (48 + d)).toNat = 48 + d := by rw [UInt8.toNat_ofNat']; omega
    rw [e, Lib.parseUint10, ec, if_pos (by omega), if_neg (by omega), if_neg (by omega), show acc * 10 + (48 + d - 48) = 10 * acc + d by omega]
    exact parse_dbytes ds _ (fun x hx => h x (List.mem_cons_of_mem _ hx)) hv
theorem atoi_dig {x : Int} (h : In64 x) : Lib.atoiAll (digT x) = .ok x := by
  obtain ⟨h0, h1⟩ := h
  have p19 : (10 : Nat) ^ 19 = 10000000000000000000 := by decide
  have key : ∀ n : Nat, n < 10 ^ 19 → Lib.parseMag (dec n) = .ok n ∧ ∃ b r, dec n = b :: r ∧ 48 ≤ b.toNat ∧ b.toNat ≤ 57 := by
    intro n hn
    obtain ⟨v1, v2, v3⟩ := digs_val 19 n hn (by omega)
    rw [dec_dbytes hn]
    have hp := parse_dbytes (digs 19 n) 0 v2 (by unfold horner at v1; rw [v1]; omega)
    unfold horner at v1
    rw [v1] at hp
    cases hq : digs 19 n with
    | nil => exact absurd hq v3
    | cons d ds =>
      rw [hq] at hp v2
      have hd := v2 d List.mem_cons_self
      have e : dbytes (d :: ds) = UInt8.ofNat (48 + d) :: dbytes ds := rfl
      have ec : (UInt8.ofNat (48 + d)).toNat = 48 + d := by rw [UInt8.toNat_ofNat']; omega
      refine ⟨?_, _, _, e, by omega, by omega⟩
      unfold Lib.parseMag
      rw [if_neg (by rw [e]; simp)]
      exact hp
  unfold digT
  by_cases hx : x < 0
  · rw [if_pos hx]
    obtain ⟨k1, _⟩ := key x.natAbs (by omega)
    unfold Lib.atoiAll
    simp only [show (45 : UInt8).toNat = 45 from rfl, or_true, if_true, k1]
    rw [if_neg (by simp), if_neg (by simp; omega)]
    congr 1; omega
  · rw [if_neg hx]
    obtain ⟨k1, b, r, e, c1, c2⟩ := key x.toNat (by omega)
    rw [e] at k1 ⊢
    unfold Lib.atoiAll
    simp only
    rw [if_neg (show ¬ (b.toNat = 43 ∨ b.toNat = 45) by omega), k1]
    simp only
    rw [if_neg (by omega), if_neg (by omega), if_neg (by omega)]
    congr 1; omega
theorem Atoi_dig {k : Nat} (hk : 1 ≤ k) {x : Int} (h : In64 x) : strconv_Atoi.f idb k (digT x) = some (x, false) := by
  obtain ⟨k, rfl⟩ : ∃ q, k = q + 1 := ⟨k - 1, by omega⟩
  have hl := digT_len x
  rw [strconv_Atoi.f_eq]
  unfold extAtoi
  rw [dT (by omega), atoi_dig h]; rfl

/-! ### The taker's parts -/
theorem number_any {k : Nat} (hk : 2 ≤ k) {r : List UInt8} (hr : r.length ≤ 4000000000) (bad : Bool) (c : UInt8) :
    ∃ x d r' b', value_taker_number.f idb k r bad [c] = some ((x, d), (r', b')) ∧ r'.length ≤ r.length ∧ (b' = false → bad = false ∧ In64 x ∧ d = digT x ∧ r = digT x ++ c :: r' ∧ c ∉ digT x) := by
  obtain ⟨k, rfl⟩ : ∃ q, k = q + 1 := ⟨k - 1, by omega⟩
  rw [value_taker_number.f_eq, Cut_ok (by omega) hr, bS]
  rcases cut_any c r with ⟨p, q, rfl, hc⟩ | hc
  · rw [cut_hit hc]
    have hl : p.length ≤ 4000000000 := by rw [List.length_append] at hr; omega
    obtain ⟨x, b, ha, hx⟩ := Atoi_any (k := k) (by omega) hl
    have hq : q.length ≤ (p ++ c :: q).length := by rw [List.length_append, List.length_cons]; omega
    simp only [ha, bS, Bool.not_true, Bool.not_false, cT]
    cases b with
    | true => simp only [Bool.not_true, cF]; exact ⟨_, _, _, _, rfl, hq, (fun h => by cases h)⟩
    | false =>
      simp only [Bool.not_false, cT, vItoa_ok (show 1 ≤ k by omega) hx, bS]
      cases he : (digT x != p) with
      | true => simp only [cT]; exact ⟨_, _, _, _, rfl, hq, (fun h => by cases h)⟩
      | false =>
        simp only [cF]
        have e : digT x = p := by simpa using he
        exact ⟨_, _, _, _, rfl, hq, fun h => ⟨h, hx, e.symm, by rw [e], by rw [e]; exact hc⟩⟩
  · rw [cut_miss hc]
    obtain ⟨x, b, ha, hx⟩ := Atoi_any (k := k) (by omega) hr
    simp only [ha, bS, Bool.not_true, Bool.not_false, cT, cF]
    exact ⟨_, _, _, _, rfl, by simp, (fun h => by cases h)⟩
theorem number_dig {k : Nat} (hk : 2 ≤ k) {x : Int} (hx : In64 x) {c : UInt8} (hc : c = 58 ∨ c = 59) {r : List UInt8} (hr : (digT x ++ c :: r).length ≤ 4000000000) :
    value_taker_number.f idb k (digT x ++ c :: r) false [c] = some ((x, digT x), (r, false)) := by
  obtain ⟨k, rfl⟩ : ∃ q, k = q + 1 := ⟨k - 1, by omega⟩
  have hn : c ∉ digT x := by
    intro hm
    obtain ⟨_, h2⟩ := digT_chars hx.1 hx.2
    have := h2 c hm
    rcases hc with rfl | rfl
    · exact this.1 rfl
    · exact this.2 rfl
  rw [value_taker_number.f_eq, Cut_ok (by omega) hr, bS, cut_hit hn]
  simp only [Atoi_dig (show 1 ≤ k by omega) hx, bS, Bool.not_true, Bool.not_false, cT, vItoa_ok (show 1 ≤ k by omega) hx, bne_self_eq_false, cF]
theorem vbytes_ok {k : Nat} (hk : 1 ≤ k) (r : List UInt8) (bad : Bool) (n : Int) : value_taker_bytes.f idb k r bad n =
    some (if bad = false ∧ 0 ≤ n ∧ n ≤ (r.length : Int) then (r.take n.toNat, (r.drop n.toNat, false)) else ([], (r, true))) := by
  obtain ⟨k, rfl⟩ : ∃ q, k = q + 1 := ⟨k - 1, by omega⟩
  rw [value_taker_bytes.f_eq]
  cases bad with
  | true => simp
  | false =>
    rw [Bool.not_false, cT]
    by_cases h0 : n < 0
    · rw [dT h0, Bool.not_true, cF, if_neg (by omega)]
    · rw [dF h0, Bool.not_false, cT]
      by_cases h1 : n > (r.length : Int)
      · rw [dT h1, cT, if_neg (by omega)]
      · rw [dF h1, cF, dT (show (0 : Int) ≤ n by omega), dT (show n ≤ (r.length : Int) by omega), Bool.and_self, cT, cT, if_pos ⟨rfl, by omega, by omega⟩, List.drop_zero, List.take_length]
theorem vbyte_ok {k : Nat} (hk : 1 ≤ k) (r : List UInt8) (bad : Bool) : value_taker_byte.f idb k r bad = some (match r with | [] => (0, ([], true)) | b :: l => ((b.toNat : Int), (l, bad))) := by
  obtain ⟨k, rfl⟩ : ∃ q, k = q + 1 := ⟨k - 1, by omega⟩
  rw [value_taker_byte.f_eq]
  cases r with
  | nil => rfl
  | cons b l =>
    have e : ((b :: l) == ([] : List UInt8)) = false := rfl
    rw [e, cF, show rd (b :: l) 0 = some b from rfl, bS, dT (by omega), dT (by simp only [List.length_cons]; omega), Bool.and_self, cT, List.take_length]
    rfl

/-! ### A value -/
/-- What taking a value does to any text. -/
def Taken (w : Int) (r : List UInt8) (bad : Bool) (res : (Int × List (List UInt8)) × (List UInt8 × Bool)) : Prop :=
  res.2.1.length ≤ r.length ∧ (res.2.2 = false → bad = false ∧ res.2.1.length < r.length) ∧ (bad = true → res.2.2 = true)
theorem row_l0 {k : Nat} {w : Int} (hv : ∀ (r : List UInt8) (bad : Bool), r.length ≤ 70000 → ∃ res, value_taker_value.f idb k r bad w = some res ∧ Taken w r bad res) (hk : 1 ≤ k) (c : Int) :
    ∀ (m : Nat) (r : List UInt8) (bad : Bool) (out : List (List UInt8)) (n : Nat), r.length ≤ m → m ≤ 70000 → out.length + r.length ≤ 70000 → m + 2 ≤ n →
      ∃ res, value_taker_row.l0 idb k n c w r bad out = some res ∧ res.2.1.length ≤ r.length ∧ (res.2.2 = false → bad = false ∧ res.2.1.length < r.length) ∧ (bad = true → res.2.2 = true) := by
  have fin : ∀ (r : List UInt8) (bad : Bool) (out : List (List UInt8)), ∃ res : List (List UInt8) × (List UInt8 × Bool), ((value_taker_byte.f idb k r bad).bind fun r_4 => some (out, (r_4.2.1, r_4.2.2))) = some res ∧ res.2.1.length ≤ r.length ∧ (res.2.2 = false → bad = false ∧ res.2.1.length < r.length) ∧ (bad = true → res.2.2 = true) := by
    intro r bad out
    rw [vbyte_ok hk, bS]
    cases r with
    | nil => exact ⟨_, rfl, Nat.le_refl _, (fun h => by cases h), fun _ => rfl⟩
    | cons b l => exact ⟨_, rfl, by simp, fun h => ⟨h, by simp⟩, fun h => h⟩
  intro m
  induction m with
  | zero =>
    intro r bad out n h1 h2 h3 h4
    obtain ⟨n, rfl⟩ : ∃ q, n = q + 1 := ⟨n - 1, by omega⟩
    rw [value_taker_row.l0_eq]
    have hr : r = [] := List.length_eq_zero_iff.1 (by omega)
    subst hr
    cases bad with
    | true => rw [Bool.not_true, cF]; exact fin _ _ _
    | false => rw [Bool.not_false, cT, show (([] : List UInt8) != []) = false from rfl, cF]; exact fin _ _ _
  | succ m ih =>
    intro r bad out n h1 h2 h3 h4
    obtain ⟨n, rfl⟩ : ∃ q, n = q + 1 := ⟨n - 1, by omega⟩
    rw [value_taker_row.l0_eq]
    cases bad with
    | true => rw [Bool.not_true, cF]; exact fin _ _ _
    | false =>
      rw [Bool.not_false, cT]
      cases r with
      | nil => rw [show (([] : List UInt8) != []) = false from rfl, cF]; exact fin _ _ _
      | cons b l =>
        rw [show ((b :: l) != ([] : List UInt8)) = true from rfl, cT, show rd (b :: l) 0 = some b from rfl, bS]
        cases hb : ((b.toNat : Int) != c) with
        | false => rw [cF]; exact fin _ _ _
        | true =>
          rw [cT]
          obtain ⟨res, e, t1, t2, t3⟩ := hv (b :: l) false (by omega)
          rw [e, bS]
          have hl : ((b :: l).length : Int) - (res.2.1.length : Int) = (((b :: l).length - res.2.1.length : Nat) : Int) := by omega
          rw [hl, wi64 _ (by omega), dT (by omega), dT (by omega), Bool.and_self, cT, dT (by simp only [List.length_cons, List.length_nil]; simp only [List.length_cons] at h3; omega), cT]
          cases hbad : res.2.2 with
          | true =>
            -- the next round ends it
            obtain ⟨n, rfl⟩ : ∃ q, n = q + 1 := ⟨n - 1, by omega⟩
            rw [value_taker_row.l0_eq, Bool.not_true, cF]
            obtain ⟨res', e', q1, q2, q3⟩ := fin res.2.1 true (out ++ [List.drop 0 (List.take ((((b :: l).length - res.2.1.length : Nat) : Int)).toNat (b :: l))])
            exact ⟨res', e', by omega, (fun h => by rw [q3 rfl] at h; cases h), (fun h => by cases h)⟩
          | false =>
            obtain ⟨_, t4⟩ := t2 hbad
            obtain ⟨res', e', q1, q2, q3⟩ := ih res.2.1 false (out ++ [List.drop 0 (List.take ((((b :: l).length - res.2.1.length : Nat) : Int)).toNat (b :: l))]) n (by omega) (by omega) (by simp only [List.length_append, List.length_cons, List.length_nil] at h3 ⊢; simp only [List.length_cons] at t4; omega) (by omega)
            exact ⟨res', e', by omega, fun h => ⟨rfl, by have := (q2 h).2; omega⟩, (fun h => by cases h)⟩
theorem value_tot : ∀ (e : Nat) {k : Nat}, e ≤ 10 → 70100 + 3 * e ≤ k → ∀ (w : Int), w + e = 5 → ∀ (r : List UInt8) (bad : Bool), r.length ≤ 70000 → ∃ res, value_taker_value.f idb k r bad w = some res ∧ Taken w r bad res
  | 0, k, _, hk, w, hw, r, bad, hr => by
    obtain ⟨k, rfl⟩ : ∃ q, k = q + 2 := ⟨k - 2, by omega⟩
    rw [value_taker_value.f_eq, dT (by omega), cT, value_taker_fail.f_eq, bS]
    exact ⟨_, rfl, Nat.le_refl _, (fun h => by cases h), fun _ => rfl⟩
  | e + 1, k, he, hk, w, hw, r, bad, hr => by
    obtain ⟨k, rfl⟩ : ∃ q, k = q + 1 := ⟨k - 1, by omega⟩
    rw [value_taker_value.f_eq, dF (by omega), cF, vbyte_ok (by omega), bS]
    cases r with
    | nil =>
      simp only [show ((0 : Int) == 110) = false from rfl, show ((0 : Int) == 105) = false from rfl, show ((0 : Int) == 116) = false from rfl, show ((0 : Int) == 102) = false from rfl, show ((0 : Int) == 115) = false from rfl, show ((0 : Int) == 91) = false from rfl, show ((0 : Int) == 123) = false from rfl, cF]
      obtain ⟨k, rfl⟩ : ∃ q, k = q + 1 := ⟨k - 1, by omega⟩
      rw [value_taker_fail.f_eq, bS]
      exact ⟨_, rfl, Nat.le_refl _, (fun h => by cases h), fun _ => rfl⟩
    | cons b l =>
      simp only
      have hl : l.length + 1 ≤ 70000 := by simpa using hr
      have ok : ∀ (res : (Int × List (List UInt8)) × (List UInt8 × Bool)), res.2.1.length ≤ l.length → (res.2.2 = false → bad = false) → (bad = true → res.2.2 = true) → Taken w (b :: l) bad res := by
        intro res h1 h2 h3
        exact ⟨by simp only [List.length_cons]; omega, fun h => ⟨h2 h, by simp only [List.length_cons]; omega⟩, h3⟩
      have hnum : ∀ (c : UInt8), ∃ x d r' b', value_taker_number.f idb k l bad [c] = some ((x, d), (r', b')) ∧ r'.length ≤ l.length ∧ (b' = false → bad = false) := by
        intro c
        obtain ⟨x, d, r', b', h1, h2, h3⟩ := number_any (k := k) (by omega) (r := l) (by omega) bad c
        exact ⟨x, d, r', b', h1, h2, fun h => (h3 h).1⟩
      have hrow : ∀ (c : Int), ∃ res, value_taker_row.f idb k l bad c (IntKind.i64.wrap (w + 1)) = some res ∧ res.2.1.length ≤ l.length ∧ (res.2.2 = false → bad = false) ∧ (bad = true → res.2.2 = true) := by
        intro c
        obtain ⟨k, rfl⟩ : ∃ q, k = q + 1 := ⟨k - 1, by omega⟩
        rw [value_taker_row.f_eq, wi64 _ (by omega)]
        obtain ⟨res, h1, h2, h3, h4⟩ := row_l0 (k := k) (w := w + 1) (fun r bad hr => value_tot e (by omega) (by omega) (w + 1) (by omega) r bad hr) (by omega) c l.length l bad [] k (Nat.le_refl _) (by omega) (by simp; omega) (by omega)
        exact ⟨res, h1, h2, fun h => (h3 h).1, h4⟩
      have hstr : ∃ res, ((value_taker_number.f idb k l bad [58]).bind fun r_4 => (value_taker_bytes.f idb k r_4.2.1 r_4.2.2 r_4.1.1).bind fun r_5 => some (((2 : Int), ([r_5.1] : List (List UInt8))), (r_5.2.1, r_5.2.2))) = some res ∧ Taken w (b :: l) bad res := by
        obtain ⟨x, d, r', b', h1, h2, h3⟩ := hnum 58
        rw [h1, bS, vbytes_ok (by omega), bS]
        refine ⟨_, rfl, ok _ ?_ ?_ ?_⟩
        · simp only
          split
          · simp only [List.length_drop]; omega
          · exact h2
        · simp only
          split
          · rename_i hc; intro _; exact h3 hc.1
          · intro h; cases h
        · intro hb
          simp only
          split
          · rename_i hc; rw [h3 hc.1] at hb; cases hb
          · rfl
      have hrow' : ∀ (c kd : Int), ∃ res, ((value_taker_row.f idb k l bad c (IntKind.i64.wrap (w + 1))).bind fun r_6 => some ((kd, r_6.1), (r_6.2.1, r_6.2.2))) = some res ∧ Taken w (b :: l) bad res := by
        intro c kd
        obtain ⟨res, h1, h2, h3, h4⟩ := hrow c
        rw [h1, bS]
        exact ⟨_, rfl, ok _ h2 h3 h4⟩
      have hfail : ∃ res, ((value_taker_fail.f idb k l bad).bind fun r_8 => some ((r_8.1.1, r_8.1.2), (r_8.2.1, r_8.2.2))) = some res ∧ Taken w (b :: l) bad res := by
        obtain ⟨k, rfl⟩ : ∃ q, k = q + 1 := ⟨k - 1, by omega⟩
        rw [value_taker_fail.f_eq, bS]
        exact ⟨_, rfl, ok _ (Nat.le_refl _) (fun h => by cases h) (fun _ => rfl)⟩
      have one : ∀ (kd : Int) (ps : List (List UInt8)), ∃ res, some ((kd, ps), (l, bad)) = some res ∧ Taken w (b :: l) bad res := fun kd ps => ⟨_, rfl, ok _ (Nat.le_refl _) (fun h => h) (fun h => h)⟩
      cases h1 : ((b.toNat : Int) == 110) with
      | true => rw [cT]; exact one _ _
      | false =>
        rw [cF]
        cases h2 : ((b.toNat : Int) == 105) with
        | true =>
          rw [cT]
          obtain ⟨x, d, r', b', q1, q2, q3⟩ := hnum 59
          rw [q1, bS]
          refine ⟨_, rfl, ok _ q2 q3 fun hb => ?_⟩
          cases b' with
          | true => rfl
          | false => rw [q3 rfl] at hb; cases hb
        | false =>
          rw [cF]
          cases h3 : ((b.toNat : Int) == 116) with
          | true => rw [cT]; exact one _ _
          | false =>
            rw [cF]
            cases h4 : ((b.toNat : Int) == 102) with
            | true => rw [cT]; exact one _ _
            | false =>
              rw [cF]
              cases h5 : ((b.toNat : Int) == 115) with
              | true => rw [cT]; exact hstr
              | false =>
                rw [cF]
                cases h6 : ((b.toNat : Int) == 91) with
                | true => rw [cT]; exact hrow' _ _
                | false =>
                  rw [cF]
                  cases h7 : ((b.toNat : Int) == 123) with
                  | true => rw [cT]; exact hrow' _ _
                  | false => rw [cF]; exact hfail

end Go.Proofs.YtjkokaockhecnaaGreatDoorP

namespace Go.Proofs.YtjkokaockhecnaaGreatDoorP
open Go Go.Proofs.YtjkokaockhecnaaGreatDoorA

theorem value_leaf {k : Nat} (hk : 70200 ≤ k) {v : List UInt8} (hv : v.length ≤ 70000) {kd : Int} {ps : List (List UInt8)} (h : value_taker_value.f idb k v false 0 = some ((kd, ps), (([] : List UInt8), false))) :
    kd = 3 ∨ kd = 4 ∨ Shape v kd ps := by
  obtain ⟨k, rfl⟩ : ∃ q, k = q + 1 := ⟨k - 1, by omega⟩
  rw [value_taker_value.f_eq, dF (by omega), cF, vbyte_ok (by omega), bS] at h
  cases v with
  | nil =>
    obtain ⟨k, rfl⟩ : ∃ q, k = q + 1 := ⟨k - 1, by omega⟩
    simp only [show ((0 : Int) == 110) = false from rfl, show ((0 : Int) == 105) = false from rfl, show ((0 : Int) == 116) = false from rfl, show ((0 : Int) == 102) = false from rfl, show ((0 : Int) == 115) = false from rfl, show ((0 : Int) == 91) = false from rfl, show ((0 : Int) == 123) = false from rfl, cF, value_taker_fail.f_eq, bS] at h
    simp at h
  | cons b l =>
    simp only at h
    have hb : ∀ {n : Nat}, ((b.toNat : Int) == (n : Int)) = true → n < 256 → b = UInt8.ofNat n := by
      intro n h hn
      have e : b.toNat = n := by have := (beq_iff_eq.1 h); omega
      rw [← e]; simp
    have hl : l.length ≤ 69999 := by simpa using hv
    cases h1 : ((b.toNat : Int) == 110) with
    | true =>
      rw [h1, cT] at h
      have eb := hb (n := 110) h1 (by omega)
      simp only [Option.some.injEq, Prod.mk.injEq] at h
      obtain ⟨⟨rfl, rfl⟩, rfl, _⟩ := h
      subst eb
      exact .inr (.inr .n)
    | false =>
      rw [h1, cF] at h
      cases h2 : ((b.toNat : Int) == 105) with
      | true =>
        rw [h2, cT] at h
        have eb := hb (n := 105) h2 (by omega)
        obtain ⟨x, d, r', b', q1, q2, q3⟩ := number_any (k := k) (by omega) (r := l) (by omega) false 59
        rw [q1, bS] at h
        simp only [Option.some.injEq, Prod.mk.injEq] at h
        obtain ⟨⟨rfl, rfl⟩, rfl, rfl⟩ := h
        obtain ⟨_, hx, rfl, e, _⟩ := q3 rfl
        subst eb
        rw [e]
        exact .inr (.inr (.i x hx))
      | false =>
        rw [h2, cF] at h
        cases h3 : ((b.toNat : Int) == 116) with
        | true =>
          rw [h3, cT, cT] at h
          have eb := hb (n := 116) h3 (by omega)
          simp only [Option.some.injEq, Prod.mk.injEq] at h
          obtain ⟨⟨rfl, rfl⟩, rfl, _⟩ := h
          subst eb
          exact .inr (.inr (.b true))
        | false =>
          rw [h3, cF] at h
          cases h4 : ((b.toNat : Int) == 102) with
          | true =>
            rw [h4, cT] at h
            have eb := hb (n := 102) h4 (by omega)
            simp only [Option.some.injEq, Prod.mk.injEq] at h
            obtain ⟨⟨rfl, rfl⟩, rfl, _⟩ := h
            subst eb
            exact .inr (.inr (.b false))
          | false =>
            rw [h4, cF] at h
            cases h5 : ((b.toNat : Int) == 115) with
            | true =>
              rw [h5, cT] at h
              have eb := hb (n := 115) h5 (by omega)
              obtain ⟨x, d, r', b', q1, q2, q3⟩ := number_any (k := k) (by omega) (r := l) (by omega) false 58
              rw [q1, bS, vbytes_ok (by omega), bS] at h
              simp only at h
              split at h
              · rename_i hc
                obtain ⟨hb', h0, hx1⟩ := hc
                obtain ⟨_, hx, rfl, e, _⟩ := q3 hb'
                simp only [Option.some.injEq, Prod.mk.injEq] at h
                obtain ⟨⟨rfl, rfl⟩, hd, _⟩ := h
                have hlen : r'.length ≤ x.toNat := by have := congrArg List.length hd; simp at this; omega
                have hxl : x = (r'.length : Int) := by omega
                subst hxl
                rw [Int.toNat_natCast, List.take_length]
                subst eb
                rw [e, digT_nat]
                have eb2 : bytesT r' = UInt8.ofNat 115 :: (dec r'.length ++ 58 :: r') := by simp [bytesT]
                rw [← eb2]
                exact .inr (.inr (.s r'))
              · simp at h
            | false =>
              rw [h5, cF] at h
              cases h6 : ((b.toNat : Int) == 91) with
              | true =>
                rw [h6, cT] at h
                cases hr : value_taker_row.f idb k l false 93 (IntKind.i64.wrap (0 + 1)) with
                | none => rw [hr] at h; cases h
                | some r =>
                  rw [hr, bS] at h
                  simp only [Option.some.injEq, Prod.mk.injEq] at h
                  exact .inl h.1.1.symm
              | false =>
                rw [h6, cF] at h
                cases h7 : ((b.toNat : Int) == 123) with
                | true =>
                  rw [h7, cT] at h
                  cases hr : value_taker_row.f idb k l false 125 (IntKind.i64.wrap (0 + 1)) with
                  | none => rw [hr] at h; cases h
                  | some r =>
                    rw [hr, bS] at h
                    simp only [Option.some.injEq, Prod.mk.injEq] at h
                    exact .inr (.inl h.1.1.symm)
                | false =>
                  obtain ⟨k, rfl⟩ : ∃ q, k = q + 1 := ⟨k - 1, by omega⟩
                  rw [h7, cF, value_taker_fail.f_eq, bS] at h
                  simp at h
theorem vParts_any {k : Nat} (hk : 70300 ≤ k) (v : List UInt8) : value_Parts.f idb k v = some (0, [], 700) ∨ ∃ kd ps, value_Parts.f idb k v = some (kd, ps, 0) ∧ v.length ≤ 65536 ∧ (kd = 3 ∨ kd = 4 ∨ Shape v kd ps) := by
  obtain ⟨k, rfl⟩ : ∃ q, k = q + 1 := ⟨k - 1, by omega⟩
  rw [value_Parts.f_eq]
  by_cases hl : v.length ≤ 65536
  · rw [dF (by omega), cF]
    obtain ⟨res, h1, h2⟩ := value_tot 5 (k := k) (by omega) (by omega) 0 (by omega) v false (by omega)
    rw [h1, bS]
    obtain ⟨⟨kd, ps⟩, r', b'⟩ := res
    cases b' with
    | true => exact .inl rfl
    | false =>
      simp only [Bool.not_false, cT]
      cases r' with
      | cons b l => exact .inl rfl
      | nil => exact .inr ⟨kd, ps, rfl, hl, value_leaf (by omega) (by omega) h1⟩
  · rw [dT (by omega), cT]; exact .inl rfl
theorem vParts_leaf {k : Nat} (hk : 70300 ≤ k) {v : List UInt8} (hl : v.length ≤ 65536) {kd : Int} {ps : List (List UInt8)} (h : Shape v kd ps) (h3 : kd < 3) : value_Parts.f idb k v = some (kd, ps, 0) := by
  obtain ⟨k, rfl⟩ : ∃ q, k = q + 1 := ⟨k - 1, by omega⟩
  have key : value_taker_value.f idb k v false 0 = some ((kd, ps), (([] : List UInt8), false)) := by
    obtain ⟨k, rfl⟩ : ∃ q, k = q + 1 := ⟨k - 1, by omega⟩
    rw [value_taker_value.f_eq, dF (by omega), cF, vbyte_ok (by omega), bS]
    cases h with
    | n => rfl
    | i x hx =>
      have e : intT x = 105 :: (digT x ++ 59 :: []) := rfl
      have hlen := digT_len x
      rw [e]
      simp only [show (((105 : UInt8).toNat : Int) == 110) = false from rfl, show (((105 : UInt8).toNat : Int) == 105) = true from rfl, cT, cF]
      rw [number_dig (by omega) hx (.inr rfl) (by rw [List.length_append]; simp only [List.length_cons, List.length_nil]; omega), bS]
    | b b => cases b <;> rfl
    | s l =>
      have e : bytesT l = 115 :: (digT ((l.length : Nat) : Int) ++ 58 :: l) := by rw [digT_nat]; simp [bytesT]
      rw [e] at hl ⊢
      have hx : In64 ((l.length : Nat) : Int) := by
        rw [List.length_cons, List.length_append, List.length_cons] at hl
        unfold In64; omega
      simp only [show (((115 : UInt8).toNat : Int) == 110) = false from rfl, show (((115 : UInt8).toNat : Int) == 105) = false from rfl, show (((115 : UInt8).toNat : Int) == 116) = false from rfl, show (((115 : UInt8).toNat : Int) == 102) = false from rfl, show (((115 : UInt8).toNat : Int) == 115) = true from rfl, cT, cF]
      rw [number_dig (by omega) hx (.inl rfl) (by rw [List.length_cons] at hl; omega), bS, vbytes_ok (by omega), bS]
      simp only
      rw [if_pos ⟨trivial, by omega, by omega⟩, Int.toNat_natCast, List.take_length, List.drop_length]
    | l vs h => omega
    | r vs h => omega
  rw [value_Parts.f_eq, dF (by omega), cF, key, bS]
  rfl

/-! ### What fits a leaf -/
/-- May a text be a leaf's value? -/
def FitL (t : List Nod) (i : Nat) (v : List UInt8) : Prop :=
  v.length ≤ 65536 ∧ ((v = [110] ∧ nul t i = true) ∨ (knd t i = 0 ∧ ∃ x, In64 x ∧ v = intT x) ∨ (knd t i = 1 ∧ ∃ b, v = boolT b) ∨ (knd t i = 2 ∧ ∃ l : List UInt8, l.length ≤ 16 ∧ v = bytesT l))
open Classical in
noncomputable def fitB (t : List Nod) (i : Nat) (v : List UInt8) : Bool := decide (FitL t i v)
theorem fitB_iff {t : List Nod} {i : Nat} {v : List UInt8} : fitB t i v = true ↔ FitL t i v := by unfold fitB; simp
theorem fitB_of {t : List Nod} {i : Nat} {v : List UInt8} {b : Bool} (h : b = true ↔ FitL t i v) : fitB t i v = b := by
  cases hb : b with
  | true => exact fitB_iff.2 (h.1 hb)
  | false =>
    cases hf : fitB t i v with
    | false => rfl
    | true => rw [h.2 (fitB_iff.1 hf)] at hb; cases hb
theorem FitL.shape {t : List Nod} {i : Nat} {v : List UInt8} (h : FitL t i v) : ∃ kd ps, Shape v kd ps ∧ kd < 3 ∧ ((kd = -1 ∧ nul t i = true) ∨ (kd = knd t i ∧ 0 ≤ kd ∧ ∀ l ps', kd = 2 → ps = l :: ps' → l.length ≤ 16)) := by
  obtain ⟨_, ⟨rfl, h⟩ | ⟨h, x, hx, rfl⟩ | ⟨h, b, rfl⟩ | ⟨h, l, hl, rfl⟩⟩ := h
  · exact ⟨_, _, .n, by omega, .inl ⟨rfl, h⟩⟩
  · exact ⟨_, _, .i x hx, by omega, .inr ⟨h.symm, by omega, fun _ _ h => by omega⟩⟩
  · exact ⟨_, _, .b b, by omega, .inr ⟨h.symm, by omega, fun _ _ h => by omega⟩⟩
  · refine ⟨_, _, .s l, by omega, .inr ⟨h.symm, by omega, fun l' ps' _ e => ?_⟩⟩
    simp only [List.cons.injEq] at e
    rw [← e.1]; exact hl
theorem FitL.of_shape {t : List Nod} {i : Nat} {v : List UInt8} {kd : Int} {ps : List (List UInt8)} (hs : Shape v kd ps) (hl : v.length ≤ 65536) (h3 : kd < 3) (h : (kd = -1 ∧ nul t i = true) ∨ (kd = knd t i ∧ 0 ≤ kd ∧ ∀ l ps', kd = 2 → ps = l :: ps' → l.length ≤ 16)) : FitL t i v := by
  refine ⟨hl, ?_⟩
  cases hs with
  | n => rcases h with ⟨_, h⟩ | ⟨_, h, _⟩
         · exact .inl ⟨rfl, h⟩
         · omega
  | i x hx => rcases h with ⟨h, _⟩ | ⟨h, _⟩
              · omega
              · exact .inr (.inl ⟨h.symm, x, hx, rfl⟩)
  | b b => rcases h with ⟨h, _⟩ | ⟨h, _⟩
           · omega
           · exact .inr (.inr (.inl ⟨h.symm, b, rfl⟩))
  | s l => rcases h with ⟨h, _⟩ | ⟨h, _, h'⟩
           · omega
           · exact .inr (.inr (.inr ⟨h.symm, l, h' l [] rfl rfl, rfl⟩))
  | l vs _ => omega
  | r vs _ => omega
theorem shape_kd {v : List UInt8} {kd : Int} {ps : List (List UInt8)} (hs : Shape v kd ps) : -1 ≤ kd ∧ kd ≤ 4 ∧ (kd = 2 → ∃ l, ps = [l]) := by
  cases hs with
  | s l => exact ⟨by omega, by omega, fun _ => ⟨l, rfl⟩⟩
  | _ => exact ⟨by omega, by omega, fun h => by omega⟩
theorem leaf_knd {t : List Nod} {i : Nat} (hm : mayT t = true) (hi : i < t.length) (hin : inner (knd t i) = false) : knd t i = 0 ∨ knd t i = 1 ∨ knd t i = 2 := by
  have := (((mayT_iff t).1 hm).2.1 i hi).1
  unfold kindB at this
  simp only [Bool.and_eq_true, decide_eq_true_eq] at this
  unfold inner at hin
  simp only [Bool.or_eq_false_iff, beq_eq_false_iff_ne] at hin
  omega
theorem vFits_loop {k : Nat} {kd : Int} (hkd : kd ≠ 3) {ps : List (List UInt8)} {t : List Nod} {ks : List Int} (hl : ps.length ≤ 1000) : ∀ (d i n : Nat), i + d = ps.length → d + 1 ≤ n →
    value_Fits.l1 idb k n ps kd ((ps.length : Nat) : Int) (i : Int) t ks = some (decide ((ps.length : Int) ≤ 64))
  | 0, i, n, h, hn => by
    obtain ⟨n, rfl⟩ : ∃ q, n = q + 1 := ⟨n - 1, by omega⟩
    rw [value_Fits.l1_eq, dF (by omega), cF]
  | d + 1, i, n, h, hn => by
    obtain ⟨n, rfl⟩ : ∃ q, n = q + 1 := ⟨n - 1, by omega⟩
    rw [value_Fits.l1_eq, dT (by omega), cT, rd_get (by omega), bS, show (kd == 3) = false by rw [beq_eq_false_iff_ne]; exact hkd, cF, wsucc (by omega)]
    exact vFits_loop hkd hl d (i + 1) n (by omega) (by omega)
theorem vFits_ok {k : Nat} (hk : 70400 ≤ k) {t : List Nod} {i : Nat} (hn : nodeB t (i : Int) = true) (hi : i < t.length) (hm : mayT t = true) (hin : inner (knd t i) = false) (v : List UInt8) : value_Fits.f idb k t (i : Int) v = some (fitB t i v) := by
  obtain ⟨k, rfl⟩ : ∃ q, k = q + 1 := ⟨k - 1, by omega⟩
  have hkn := leaf_knd hm hi hin
  rw [value_Fits.f_eq, types_Node_ok (by omega), bS, hn, Bool.not_true, cF]
  have uniq : ∀ {kd : Int} {ps : List (List UInt8)} {e : Int}, value_Parts.f idb k v = some (kd, ps, e) → FitL t i v → e = 0 ∧ kd < 3 ∧ ((kd = -1 ∧ nul t i = true) ∨ (kd = knd t i ∧ 0 ≤ kd ∧ ∀ l ps', kd = 2 → ps = l :: ps' → l.length ≤ 16)) := by
    intro kd ps e hp hf
    obtain ⟨kd', ps', h1, h2, h3⟩ := hf.shape
    rw [vParts_leaf (by omega) hf.1 h1 h2] at hp
    simp only [Option.some.injEq, Prod.mk.injEq] at hp
    obtain ⟨rfl, rfl, rfl⟩ := hp
    exact ⟨rfl, h2, h3⟩
  rcases vParts_any (k := k) (by omega) v with hp | ⟨kd, ps, hp, hl, hs⟩
  · rw [hp, bS, rd_get hi, bS]
    have : fitB t i v = false := fitB_of ⟨(fun h => by cases h), fun hf => by have := (uniq hp hf).1; omega⟩
    rw [this]; rfl
  · rw [hp, bS, rd_get hi, bS, nul_get hi, knd_get hi]
    simp only [show (!((0 : Int) != 0)) = true from rfl, show ((0 : Int) == 0) = true from rfl, cT]
    cases h1 : (kd == -1) with
    | true =>
      have e : kd = -1 := by simpa using h1
      rw [cT]
      congr 1
      refine (fitB_of ⟨fun hb => ?_, fun hf => ?_⟩).symm
      · rcases hs with h | h | h
        · omega
        · omega
        · exact FitL.of_shape h hl (by omega) (.inl ⟨e, hb⟩)
      · rcases (uniq hp hf).2.2 with ⟨_, h⟩ | ⟨_, h, _⟩
        · exact h
        · omega
    | false =>
      have hne : kd ≠ -1 := by simpa using h1
      rw [cF, types_Kids_ok (by omega), bS]
      cases h2 : (kd != knd t i) with
      | true =>
        have hne2 : kd ≠ knd t i := by simpa using h2
        rw [cT]
        have : fitB t i v = false := fitB_of ⟨(fun h => by cases h), fun hf => by
          rcases (uniq hp hf).2.2 with ⟨h, _⟩ | ⟨h, _⟩
          · exact absurd h hne
          · exact absurd h hne2⟩
        rw [this]
      | false =>
        have he2 : kd = knd t i := by simpa using h2
        rw [cF]
        have hsh : Shape v kd ps := by
          rcases hs with h | h | h
          · omega
          · omega
          · exact h
        cases h3 : (kd == 2) with
        | true =>
          have e2 : kd = 2 := by simpa using h3
          obtain ⟨l, rfl⟩ := (shape_kd hsh).2.2 e2
          rw [cT, dT (by omega), dT (by simp), Bool.and_self, cT, show ([l] : List (List UInt8))[0]? = some l from rfl, bS]
          congr 1
          refine (fitB_of ⟨fun hb => ?_, fun hf => ?_⟩).symm
          · refine FitL.of_shape hsh hl (by omega) (.inr ⟨he2, by omega, fun l' ps' _ e => ?_⟩)
            simp only [List.cons.injEq] at e
            rw [← e.1]
            have := of_decide_eq_true hb; omega
          · rcases (uniq hp hf).2.2 with ⟨h, _⟩ | ⟨_, _, h⟩
            · exact absurd h hne
            · have := h l [] e2 rfl
              exact decide_eq_true (by omega)
        | false =>
          have e2 : kd ≠ 2 := by simpa using h3
          rw [cF, show (kd == 4) = false by rw [beq_eq_false_iff_ne]; omega, cF]
          have hps : ps.length = 1 := by
            cases hsh with
            | n => omega
            | i x hx => rfl
            | b b => rfl
            | s l => rfl
            | l vs _ => omega
            | r vs _ => omega
          have hL := vFits_loop (k := k) (kd := kd) (by omega) (ps := ps) (t := t) (ks := (kidsT t (i : Int)).1) (by omega) ps.length 0 k (by omega) (by omega)
          rw [show ((0 : Nat) : Int) = 0 from rfl] at hL
          rw [hL]
          have : fitB t i v = true := fitB_iff.2 (FitL.of_shape hsh hl (by omega) (.inr ⟨he2, by omega, fun _ _ h => absurd h e2⟩))
          rw [this, dT (by omega)]
end Go.Proofs.YtjkokaockhecnaaGreatDoorP

namespace Go.Proofs.YtjkokaockhecnaaGreatDoorP
open Go Go.Proofs.YtjkokaockhecnaaGreatDoorA

/-! ### Small things -/
/-- How many bits a small number needs. -/
def bw (n : Int) : Int := if n < 1 then 0 else if n < 2 then 1 else if n < 4 then 2 else if n < 8 then 3 else 4
theorem bw_range (n : Int) : 0 ≤ bw n ∧ bw n ≤ 4 := by unfold bw; split <;> (try split) <;> (try split) <;> (try split) <;> omega
theorem bw_fits {n x : Int} (hn : n ≤ 15) (h0 : 0 ≤ x) (h1 : x ≤ n) : x < 2 ^ (bw n).toNat := by
  unfold bw
  split
  · show x < 1; omega
  · split
    · show x < 2; omega
    · split
      · show x < 4; omega
      · split
        · show x < 8; omega
        · show x < 16; omega
theorem Len_tab (k : Nat) : (List.range 16).map (fun n => math_bits_Len.f idb (k + 2) (IntKind.u64.wrap ((n : Nat) : Int))) = (List.range 16).map (fun n => some (bw ((n : Nat) : Int))) := by kernel_rfl
theorem Len_ok {k : Nat} (hk : 2 ≤ k) {n : Int} (h0 : 0 ≤ n) (h1 : n ≤ 15) : math_bits_Len.f idb k (IntKind.u64.wrap n) = some (bw n) := by
  obtain ⟨k, rfl⟩ : ∃ q, k = q + 2 := ⟨k - 2, by omega⟩
  obtain ⟨m, rfl⟩ : ∃ m : Nat, n = (m : Int) := ⟨n.toNat, by omega⟩
  exact List.map_inj_left.1 (Len_tab k) m (List.mem_range.2 (by omega))
theorem lev_range {t : List Nod} {a : Int} : 0 ≤ (levT t a).1 ∧ (levT t a).1 ≤ 15 ∧ 0 ≤ (levT t a).2.1 ∧ (levT t a).2.1 ≤ 15 := by
  cases hn : nodeB t a with
  | false => rw [levT_no hn]; decide
  | true =>
    obtain ⟨hm, i, hi, rfl⟩ := nodeB_may hn
    rw [levT_at hm hi]
    have h1 := repW_range t (wayL t (i : Int))
    have h2 := defW_range t (wayL t (i : Int))
    have h3 := (((mayT_iff t).1 hm).2.2 i hi).2
    simp only
    omega
theorem word4' {k : Nat} (hk : 12 ≤ k) (x : Int) : num_Word.f idb k x 4 = some (w4 x) := by
  obtain ⟨k, rfl⟩ : ∃ q, k = q + 12 := ⟨k - 12, by omega⟩
  exact word4 k x
theorem word8' {k : Nat} (hk : 12 ≤ k) (x : Int) : num_Word.f idb k x 8 = some (w8 x) := by
  obtain ⟨k, rfl⟩ : ∃ q, k = q + 12 := ⟨k - 12, by omega⟩
  exact word8 k x
theorem word1' {k : Nat} (hk : 12 ≤ k) (x : Int) : num_Word.f idb k x 1 = some (wd1 x) := by
  obtain ⟨k, rfl⟩ : ∃ q, k = q + 12 := ⟨k - 12, by omega⟩
  exact word1 k x

/-- Do numbers lie from 0 to another one? -/
def inL (most : Int) (xs : List Int) : Bool := xs.all fun x => decide (0 ≤ x) && decide (x ≤ most)
theorem range_get {α : Type} (xs : List α) (p : α → Bool) (q : Nat → Bool) (h : ∀ i (hi : i < xs.length), q i = p xs[i]) : (List.range xs.length).all q = xs.all p := by
  rw [Bool.eq_iff_iff, List.all_eq_true, List.all_eq_true]
  constructor
  · intro hq x hx
    obtain ⟨i, hi, rfl⟩ := List.mem_iff_getElem.1 hx
    rw [← h i hi]; exact hq i (List.mem_range.2 hi)
  · intro hp i hi
    have hi' := List.mem_range.1 hi
    rw [h i hi']; exact hp _ (List.getElem_mem hi')
theorem within_ok {k : Nat} {xs : List Int} (hk : xs.length + 3 ≤ k) (hl : xs.length ≤ 20000000000000) (most : Int) : page_within.f idb k xs most = some (inL most xs) := by
  obtain ⟨k, rfl⟩ : ∃ q, k = q + 1 := ⟨k - 1, by omega⟩
  rw [page_within.f_eq]
  have := loop_all (F := fun n i => page_within.l0 idb k n most xs (xs.length : Int) (i : Int)) (p := fun i => match xs[i]? with | some x => decide (0 ≤ x) && decide (x ≤ most) | none => false) (N := xs.length) (E := some true) (Z := some false) ?_ ?_ k (by omega)
  · refine this.trans ?_
    rw [range_get xs (fun x => decide (0 ≤ x) && decide (x ≤ most)) _ fun i hi => by simp only [List.getElem?_eq_getElem hi]]
    unfold inL
    cases xs.all _ <;> rfl
  · intro n i hi _
    rw [page_within.l0_eq, dT (by omega), cT, rd_get hi, bS, List.getElem?_eq_getElem hi]
    simp only
    by_cases h0 : xs[i] < 0
    · rw [dT h0, Bool.not_true, cF, dF (show ¬ (0 : Int) ≤ xs[i] by omega), Bool.false_and, cF]
    · rw [dF h0, Bool.not_false, cT, dT (show (0 : Int) ≤ xs[i] by omega), Bool.true_and]
      by_cases h1 : xs[i] > most
      · rw [dT h1, cT, dF (show ¬ xs[i] ≤ most by omega), cF]
      · rw [dF h1, cF, dT (show xs[i] ≤ most by omega), cT, wsucc (by omega)]
  · intro _ n
    rw [page_within.l0_eq, dF (by omega), cF]
/-- How many of numbers are just one. -/
def cnt (one : Int) (xs : List Int) : Nat := xs.countP fun x => x == one
theorem cnt_le (one : Int) (xs : List Int) : cnt one xs ≤ xs.length := List.countP_le_length
theorem cnt_succ (one : Int) {xs : List Int} {i : Nat} (h : i < xs.length) : cnt one (xs.take (i + 1)) = cnt one (xs.take i) + (if xs[i] == one then 1 else 0) := by
  unfold cnt
  rw [List.take_succ_eq_append_getElem h, List.countP_append, List.countP_cons, List.countP_nil]
  omega
theorem there_ok' {k : Nat} {xs : List Int} (hk : xs.length + 3 ≤ k) (hl : xs.length ≤ 20000000000000) (one : Int) : page_there.f idb k xs one = some ((cnt one xs : Nat) : Int) := by
  obtain ⟨k, rfl⟩ : ∃ q, k = q + 1 := ⟨k - 1, by omega⟩
  rw [page_there.f_eq]
  have := loop_up (F := fun n i => page_there.l0 idb k n one ((cnt one (xs.take i) : Nat) : Int) xs (xs.length : Int) (i : Int)) (N := xs.length) (r := some ((cnt one xs : Nat) : Int)) ?_ ?_ k 0 (by omega) (by omega)
  · simpa [cnt] using this
  · intro n i hi
    have hc := cnt_succ one hi
    have hle : cnt one (xs.take i) ≤ i := Nat.le_trans (cnt_le one _) (by rw [List.length_take]; omega)
    rw [page_there.l0_eq, dT (by omega), cT, rd_get hi, bS, wsucc (i := i) (by omega), hc]
    cases hx : (xs[i] == one) with
    | true => rw [cT, wi64 _ (by omega)]; rfl
    | false => rw [cF]; rfl
  · intro n
    rw [page_there.l0_eq, dF (by omega), cF, List.take_length]

/-! ### Which columns may be -/
noncomputable def vOk (t : List Nod) (a : Int) (v : List UInt8) : Bool := (v != [110]) && fitB t a.toNat v
/-- May a column be a leaf's? -/
noncomputable def colMay (t : List Nod) (a : Int) (c : Col) : Bool :=
  (nodeB t a && !inner (knd t a.toNat)) && (decide (c.reps.length = c.defs.length) && (decide (c.reps.length ≤ 4096) && (inL (levT t a).1 c.reps && (inL (levT t a).2.1 c.defs && (c.values.all (vOk t a) && decide (c.values.length = cnt (levT t a).2.1 c.defs))))))
theorem Leaf_ok {k : Nat} (hk : 32 ≤ k) (t : List Nod) (a : Int) : types_Leaf.f idb k t a = some (nodeB t a && !inner (knd t a.toNat)) := by
  obtain ⟨k, rfl⟩ : ∃ q, k = q + 1 := ⟨k - 1, by omega⟩
  rw [types_Leaf.f_eq, types_Node_ok (by omega), bS]
  cases hn : nodeB t a with
  | false => rfl
  | true =>
    obtain ⟨hm, i, hi, rfl⟩ := nodeB_may hn
    rw [cT, rd_get hi, bS, types_Inner_ok (by omega), bS, knd_get hi, Int.toNat_natCast, Bool.true_and]
theorem page_May_ok {k : Nat} {t : List Nod} {a : Int} {c : Col} (hk : 70500 + c.values.length ≤ k) (hl : c.values.length ≤ 20000000000000) (hd : c.reps.length ≤ 20000000000000 ∧ c.defs.length ≤ 20000000000000) : page_May.f idb k t a c = some (colMay t a c) := by
  obtain ⟨k, rfl⟩ : ∃ q, k = q + 1 := ⟨k - 1, by omega⟩
  rw [page_May.f_eq, types_Levels_ok (by omega), bS, Leaf_ok (by omega), bS]
  unfold colMay
  cases hn : nodeB t a && !inner (knd t a.toNat) with
  | false => rfl
  | true =>
    rw [Bool.not_true, Bool.not_false, cT, Bool.true_and]
    by_cases h1 : c.reps.length = c.defs.length
    · rw [show (((c.reps.length : Nat) : Int) != ((c.defs.length : Nat) : Int)) = false by rw [h1]; simp, Bool.not_false, cT, dT h1, Bool.true_and]
      by_cases h2 : c.reps.length ≤ 4096
      · rw [dF (by omega), Bool.not_false, cT, dT h2, Bool.true_and, within_ok (by omega) (by omega), bS]
        cases h3 : inL (levT t a).1 c.reps with
        | false => rfl
        | true =>
          rw [Bool.not_true, Bool.not_false, cT, Bool.true_and, within_ok (by omega) (by omega), bS]
          cases h4 : inL (levT t a).2.1 c.defs with
          | false => rfl
          | true =>
            rw [Bool.not_true, cF, Bool.true_and]
            rw [Bool.and_eq_true] at hn
            obtain ⟨hm, i, hi, rfl⟩ := nodeB_may hn.1
            rw [Int.toNat_natCast] at hn
            have hin : inner (knd t i) = false := by simpa using hn.2
            have := loop_all (F := fun n j => page_May.l0 idb k n (i : Int) (levT t (i : Int)).2.1 c.values (c.values.length : Int) (j : Int) t c.reps c.defs) (p := fun j => match c.values[j]? with | some v => vOk t (i : Int) v | none => false) (N := c.values.length) (E := some (decide (c.values.length = cnt (levT t (i : Int)).2.1 c.defs))) (Z := some false) ?_ ?_ k (by omega)
            · refine this.trans ?_
              rw [range_get c.values (vOk t (i : Int)) _ fun j hj => by simp only [List.getElem?_eq_getElem hj]]
              cases c.values.all (vOk t (i : Int)) <;> rfl
            · intro n j hj _
              obtain ⟨k, rfl⟩ : ∃ q, k = q + 1 := ⟨k - 1, by omega⟩
              rw [page_May.l0_eq, dT (by omega), cT, rd_get hj, bS, value_Null.f_eq, bS, List.getElem?_eq_getElem hj]
              simp only [vOk, Int.toNat_natCast]
              cases hx : (c.values[j] == [110]) with
              | true =>
                rw [Bool.not_true, cF, show (c.values[j] != [110]) = false by simp [bne, hx], Bool.false_and, cF]
              | false =>
                rw [Bool.not_false, cT, show (c.values[j] != [110]) = true by simp [bne, hx], Bool.true_and, vFits_ok (by omega) hn.1 hi hm hin, bS]
                cases fitB t i c.values[j] with
                | false => rfl
                | true => rw [Bool.not_true, cF, wsucc (by omega), cT]
            · intro _ n
              rw [page_May.l0_eq, dF (by omega), cF, there_ok' (by omega) (by omega), bS]
              congr 1
              rw [Bool.eq_iff_iff, beq_iff_eq, decide_eq_true_iff]; omega
      · rw [dT (by omega), Bool.not_true, cF, dF h2, Bool.false_and]
    · rw [show (((c.reps.length : Nat) : Int) != ((c.defs.length : Nat) : Int)) = true by rw [bne_iff_ne]; omega, Bool.not_true, cF, dF h1, Bool.false_and]
end Go.Proofs.YtjkokaockhecnaaGreatDoorP

namespace Go.Proofs.YtjkokaockhecnaaGreatDoorP
open Go Go.Proofs.YtjkokaockhecnaaGreatDoorA

/-! ### Sums -/
def rnd (x : Int) : Int := bitsOp .xor .u32 (Int.fdiv x (2 ^ (min 1 IntKind.u32.bits))) (IntKind.u32.wrap (3988292384 * (bitsOp .and .u32 x 1)))
def rnds : Nat → Int → Int
  | 0, x => x
  | n + 1, x => rnds n (rnd x)
def crcB (x : Int) (b : UInt8) : Int := rnds 8 (bitsOp .xor .u32 x (IntKind.u32.wrap (b.toNat : Int)))
def crcS (s : List UInt8) : Int := IntKind.i64.wrap (bitsOp .xor .u32 (s.foldl crcB 4294967295) 4294967295)
theorem crc_l2 {k m1 : Nat} {s : List UInt8} {len i : Int} : ∀ (d j n : Nat) (x : Int), j + d = 8 → d + 1 ≤ n → crc_Sum.l2 idb k m1 n s x len i (j : Int) = crc_Sum.l0 idb k m1 s (rnds d x) len (IntKind.i64.wrap (i + 1))
  | 0, j, n, x, h, hn => by
    obtain ⟨n, rfl⟩ : ∃ q, n = q + 1 := ⟨n - 1, by omega⟩
    rw [crc_Sum.l2_eq, dF (by omega), cF]; rfl
  | d + 1, j, n, x, h, hn => by
    obtain ⟨n, rfl⟩ : ∃ q, n = q + 1 := ⟨n - 1, by omega⟩
    rw [crc_Sum.l2_eq, dT (by omega), cT, wsucc (by omega)]
    exact crc_l2 d (j + 1) n (rnd x) (by omega) (by omega)
theorem crc_ok {k : Nat} {s : List UInt8} (hk : s.length + 12 ≤ k) (hl : s.length ≤ 1000000000000000) : crc_Sum.f idb k s = some (crcS s) := by
  obtain ⟨k, rfl⟩ : ∃ q, k = q + 1 := ⟨k - 1, by omega⟩
  rw [crc_Sum.f_eq]
  have := loop_up (F := fun n i => crc_Sum.l0 idb k n s ((s.take i).foldl crcB 4294967295) (s.length : Int) (i : Int)) (N := s.length) (r := some (crcS s)) ?_ ?_ k 0 (by omega) (by omega)
  · simpa using this
  · intro n i hi
    rw [crc_Sum.l0_eq, dT (by omega), cT, rd_get hi, bS]
    have := crc_l2 (k := k) (m1 := n) (s := s) (len := (s.length : Int)) (i := (i : Int)) 8 0 k (bitsOp .xor .u32 ((s.take i).foldl crcB 4294967295) (IntKind.u32.wrap (s[i].toNat : Int))) (by omega) (by omega)
    rw [show ((0 : Nat) : Int) = 0 from rfl] at this
    rw [this, wsucc (by omega), List.take_succ_eq_append_getElem hi, List.foldl_append]
    rfl
  · intro n
    rw [crc_Sum.l0_eq, dF (by omega), cF, List.take_length]
    rfl

/-! ### Values' bytes -/
/-- A value and its bytes in a page. -/
inductive PB : List UInt8 → List UInt8 → Prop
  | i (x : Int) (h : In64 x) : PB (intT x) (w8 x)
  | b (b : Bool) : PB (boolT b) (wd1 (if b then 1 else 0))
  | s (l : List UInt8) (h : l.length ≤ 16) : PB (bytesT l) (w4 (l.length : Int) ++ l)
theorem PB.len {v b : List UInt8} (h : PB v b) : b.length ≤ 20 := by
  cases h with
  | i x h => show 8 ≤ 20; omega
  | b b => show 1 ≤ 20; omega
  | s l h => rw [List.length_append, w4_length]; omega
theorem FitL.pb {t : List Nod} {i : Nat} {v : List UInt8} (h : FitL t i v) (hv : v ≠ [110]) : ∃ b, PB v b := by
  obtain ⟨_, ⟨h, _⟩ | ⟨_, x, hx, rfl⟩ | ⟨_, b, rfl⟩ | ⟨_, l, hl, rfl⟩⟩ := h
  · exact absurd h hv
  · exact ⟨_, .i x hx⟩
  · exact ⟨_, .b b⟩
  · exact ⟨_, .s l hl⟩
theorem pgBytes_ok {k : Nat} (hk : 70500 ≤ k) {v b : List UInt8} (h : PB v b) (hl : v.length ≤ 65536) : page_bytes.f idb k v = some b := by
  obtain ⟨k, rfl⟩ : ∃ q, k = q + 1 := ⟨k - 1, by omega⟩
  rw [page_bytes.f_eq]
  cases h with
  | i x hx =>
    rw [vParts_leaf (by omega) hl (.i x hx) (by omega), bS]
    simp only [show ((0 : Int) == 0) = true from rfl, cT]
    rw [dT (by omega), dT (by simp), Bool.and_self, cT, show ([digT x] : List (List UInt8))[0]? = some (digT x) from rfl, bS, Atoi_dig (by omega) hx, bS, word8' (by omega), bS]
  | b b =>
    rw [vParts_leaf (by omega) hl (.b b) (by omega), bS]
    simp only [show ((1 : Int) == 0) = false from rfl, show ((1 : Int) == 1) = true from rfl, cT, cF]
    rw [dT (by omega), dT (by simp), Bool.and_self, cT, show ([boolT b] : List (List UInt8))[0]? = some (boolT b) from rfl, bS]
    cases b with
    | true =>
      rw [show rd (boolT true) 0 = some 116 from rfl, bS, there_ok' (by simp only [List.length_cons, List.length_nil]; omega) (by simp), bS, word1' (by omega), bS]
      rfl
    | false =>
      rw [show rd (boolT false) 0 = some 102 from rfl, bS, there_ok' (by simp only [List.length_cons, List.length_nil]; omega) (by simp), bS, word1' (by omega), bS]
      rfl
  | s l h16 =>
    rw [vParts_leaf (by omega) hl (.s l) (by omega), bS]
    simp only [show ((2 : Int) == 0) = false from rfl, show ((2 : Int) == 1) = false from rfl, cF]
    rw [dT (by omega), dT (by simp), Bool.and_self, cT, show ([l] : List (List UInt8))[0]? = some l from rfl, bS, word4' (by omega), bS, cT, bS, dT (by rw [w4_length]; omega), cT]
end Go.Proofs.YtjkokaockhecnaaGreatDoorP

namespace Go.Proofs.YtjkokaockhecnaaGreatDoorP
open Go Go.Proofs.YtjkokaockhecnaaGreatDoorA

noncomputable def pgB (v : List UInt8) : List UInt8 := (page_bytes.f idb 80000 v).getD []
theorem PB.short {v b : List UInt8} (h : PB v b) : v.length ≤ 100 := by
  cases h with
  | i x h => have := digT_len x; unfold intT; simp only [List.length_append, List.length_cons, List.length_nil]; omega
  | b b => cases b <;> decide
  | s l h => have := dec_len l.length; unfold bytesT; simp only [List.length_append, List.length_cons, List.length_nil]; omega
theorem PB.eq {v b : List UInt8} (h : PB v b) : pgB v = b := by
  unfold pgB
  rw [pgBytes_ok (by omega) h (by have := h.short; omega)]; rfl
theorem vOk_pb {t : List Nod} {a : Int} {v : List UInt8} (h : vOk t a v = true) : PB v (pgB v) := by
  unfold vOk at h
  rw [Bool.and_eq_true, bne_iff_ne] at h
  obtain ⟨b, hb⟩ := (fitB_iff.1 h.2).pb h.1
  rw [hb.eq]; exact hb
theorem colMay_parts {t : List Nod} {a : Int} {c : Col} (h : colMay t a c = true) : ∃ i : Nat, a = (i : Int) ∧ i < t.length ∧ mayT t = true ∧ nodeB t (i : Int) = true ∧ inner (knd t i) = false ∧ c.reps.length = c.defs.length ∧ c.reps.length ≤ 4096 ∧
    inL (levT t a).1 c.reps = true ∧ inL (levT t a).2.1 c.defs = true ∧ (∀ v ∈ c.values, vOk t a v = true) ∧ c.values.length = cnt (levT t a).2.1 c.defs := by
  unfold colMay at h
  simp only [Bool.and_eq_true, decide_eq_true_eq, List.all_eq_true, Bool.not_eq_true'] at h
  obtain ⟨⟨h0, h1⟩, h2, h3, h4, h5, h6, h7⟩ := h
  obtain ⟨hm, i, hi, rfl⟩ := nodeB_may h0
  rw [Int.toNat_natCast] at h1
  exact ⟨i, rfl, hi, hm, h0, h1, h2, h3, h4, h5, h6, h7⟩
theorem colMay_vlen {t : List Nod} {a : Int} {c : Col} (h : colMay t a c = true) : c.values.length ≤ 4096 := by
  obtain ⟨i, _, _, _, _, _, h1, h2, _, _, _, h3⟩ := colMay_parts h
  have := cnt_le (levT t a).2.1 c.defs
  omega
theorem inL_ok {most : Int} (hm : most ≤ 15) {xs : List Int} (h : inL most xs = true) : okL (bw most).toNat xs = true := by
  unfold inL at h
  unfold okL
  rw [List.all_eq_true] at h ⊢
  intro x hx
  have := h x hx
  simp only [Bool.and_eq_true, decide_eq_true_eq] at this
  unfold okX
  rw [dT this.1, dT (bw_fits hm this.1 this.2)]; rfl
/-- Levels' bytes. -/
def lvB (most : Int) (xs : List Int) : List UInt8 := (putT (bw most) xs).1
theorem levels_ok {k : Nat} (hk : 1200020 ≤ k) {most : Int} (h0 : 0 ≤ most) (h1 : most ≤ 15) (xs : List Int) : page_levels.f idb k xs most = some (lvB most xs) := by
  obtain ⟨k, rfl⟩ : ∃ q, k = q + 1 := ⟨k - 1, by omega⟩
  rw [page_levels.f_eq, Len_ok (by omega) h0 h1, bS, Put_any (by omega), bS]; rfl
theorem lvB_put {most : Int} (h1 : most ≤ 15) {xs : List Int} (hx : inL most xs = true) (hl : xs.length ≤ 4096) : putT (bw most) xs = (lvB most xs, 0) ∧ lvB most xs = putH (bw most).toNat xs ∧ (lvB most xs).length ≤ 102400 := by
  have hb := bw_range most
  have ho := inL_ok h1 hx
  have := putT_ok (w := (bw most).toNat) (by omega) hl ho
  rw [Int.toNat_of_nonneg hb.1] at this
  have e : lvB most xs = putH (bw most).toNat xs := by unfold lvB; rw [this]
  refine ⟨by rw [this, e], e, ?_⟩
  have := putH_length (w := (bw most).toNat) (by omega) xs.length xs (Nat.le_refl _) hl
  rw [e]; omega
/-- The numbers ahead of a page's levels. -/
def pgHead (n r d : Nat) : List UInt8 := (w4 (n : Int) ++ w4 (r : Int)) ++ w4 (d : Int)
/-- What a page's sum is of. -/
noncomputable def pgBody (t : List Nod) (a : Int) (c : Col) : List UInt8 :=
  (pgHead c.reps.length (lvB (levT t a).1 c.reps).length (lvB (levT t a).2.1 c.defs).length ++ (lvB (levT t a).1 c.reps ++ lvB (levT t a).2.1 c.defs)) ++ (c.values.map pgB).flatten
noncomputable def putP (t : List Nod) (a : Int) (c : Col) : List UInt8 × Int := if colMay t a c = true then (w4 (crcS (pgBody t a c)) ++ pgBody t a c, 0) else ([], 2200)
theorem bytesOf_append (x y : List UInt8) : bytesOfStr x ++ bytesOfStr y = bytesOfStr (x ++ y) := by unfold bytesOfStr; rw [List.map_append]
theorem bytesOf_len (x : List UInt8) : (bytesOfStr x).length = x.length := by unfold bytesOfStr; rw [List.length_map]
theorem pgflat_len {vs : List (List UInt8)} (h : ∀ v ∈ vs, PB v (pgB v)) : (vs.map pgB).flatten.length ≤ 20 * vs.length := by
  induction vs with
  | nil => simp
  | cons v vs ih =>
    have h1 := (h v List.mem_cons_self).len
    have h2 := ih fun w hw => h w (List.mem_cons_of_mem _ hw)
    simp only [List.map_cons, List.flatten_cons, List.length_append, List.length_cons]
    omega
theorem Put_l2 {k : Nat} {vs : List (List UInt8)} (hv : ∀ v ∈ vs, PB v (pgB v)) (hl : vs.length ≤ 4096) {H : List UInt8} (hH : H.length ≤ 1000000) (hk : 1200000 ≤ k) {n : Nat} (hn : vs.length < n) :
    page_Put.l2 idb k n vs (vs.length : Int) 0 (bytesOfStr H) = some (w4 (crcS (H ++ (vs.map pgB).flatten)) ++ (H ++ (vs.map pgB).flatten), 0) := by
  have hfl := pgflat_len hv
  have := loop_up (F := fun n i => page_Put.l2 idb k n vs (vs.length : Int) (i : Int) (bytesOfStr (H ++ ((vs.take i).map pgB).flatten))) (N := vs.length) (r := some (w4 (crcS (H ++ (vs.map pgB).flatten)) ++ (H ++ (vs.map pgB).flatten), 0)) ?_ ?_ n 0 (by omega) (by omega)
  · simpa using this
  · intro n i hi
    have hb := hv vs[i] (List.getElem_mem hi)
    have hft := pgflat_len (vs := vs.take i) fun v h => hv v (List.mem_of_mem_take h)
    rw [List.length_take] at hft
    have hbl := hb.len
    rw [page_Put.l2_eq, dT (by omega), cT, rd_get hi, bS, pgBytes_ok (by omega) hb (by have := hb.short; omega), bS, dT (by rw [bytesOf_len, List.length_append]; omega), cT, bytesOf_append, wsucc (i := i) (by omega)]
    congr 1
    rw [List.take_succ_eq_append_getElem hi, List.map_append, List.flatten_append, List.map_cons, List.map_nil, List.flatten_cons, List.flatten_nil, List.append_nil, List.append_assoc]
  · intro n
    rw [page_Put.l2_eq, dF (by omega), cF, List.take_length, bytesOf_back, crc_ok (by rw [List.length_append]; omega) (by rw [List.length_append]; omega), bS, word4' (by omega), bS, dT (by rw [List.length_append, w4_length]; omega), cT]
theorem page_Put_ok {k : Nat} {t : List Nod} {a : Int} {c : Col} (hk : 1200100 + c.values.length ≤ k) (hl : c.values.length ≤ 20000000000000) (hd : c.reps.length ≤ 20000000000000 ∧ c.defs.length ≤ 20000000000000) : page_Put.f idb k t a c = some (putP t a c) := by
  obtain ⟨k, rfl⟩ : ∃ q, k = q + 1 := ⟨k - 1, by omega⟩
  rw [page_Put.f_eq, page_May_ok (by omega) hl hd, bS]
  unfold putP
  cases hm : colMay t a c with
  | false => rfl
  | true =>
    obtain ⟨i, rfl, hi, hmt, hn, hin, h1, h2, h3, h4, h5, h6⟩ := colMay_parts hm
    have hvl := colMay_vlen hm
    obtain ⟨r0, r1, d0, d1⟩ := lev_range (t := t) (a := (i : Int))
    obtain ⟨_, _, hr⟩ := lvB_put r1 h3 h2
    obtain ⟨_, _, hdl⟩ := lvB_put d1 h4 (by omega)
    rw [Bool.not_true, cF, if_pos rfl, types_Levels_ok (by omega), bS, levels_ok (by omega) r0 r1, bS, levels_ok (by omega) d0 d1, bS]
    obtain ⟨q, hq⟩ : ∃ q, k = q + 4 := ⟨k - 4, by omega⟩
    have key : ∀ (A B C : Int) (r d : List UInt8), r.length ≤ 102400 → d.length ≤ 102400 → page_Put.l0 idb k (q + 4) r d ((([A, B, C] : List Int).length : Nat) : Int) 0 c.reps c.defs c.values ([] : List Int) [A, B, C] =
        page_Put.l2 idb k k c.values ((c.values.length : Nat) : Int) 0 (bytesOfStr (((w4 A ++ w4 B) ++ w4 C) ++ (r ++ d))) := by
      intro A B C r d hr hd
      rw [page_Put.l0_eq, dT (by simp), cT, dT (by omega), Bool.and_self, cT, show ([A, B, C] : List Int)[(0 : Int).toNat]? = some A from rfl, bS, word4' (by omega), bS, dT (by simp [w4_length]), cT, show IntKind.i64.wrap (0 + 1) = 1 from rfl, List.nil_append]
      rw [page_Put.l0_eq, dT (by simp), cT, dT (by omega), Bool.and_self, cT, show ([A, B, C] : List Int)[(1 : Int).toNat]? = some B from rfl, bS, word4' (by omega), bS, dT (by rw [bytesOf_len]; simp [w4_length]), cT, show IntKind.i64.wrap (1 + 1) = 2 from rfl, bytesOf_append]
      rw [page_Put.l0_eq, dT (by simp), cT, dT (by omega), Bool.and_self, cT, show ([A, B, C] : List Int)[(2 : Int).toNat]? = some C from rfl, bS, word4' (by omega), bS, dT (by rw [bytesOf_len]; simp [w4_length]), cT, show IntKind.i64.wrap (2 + 1) = 3 from rfl, bytesOf_append]
      rw [page_Put.l0_eq, dF (by simp), cF, dT (by omega), cT, dT (by rw [bytesOf_len]; simp only [List.length_append, w4_length]; omega), cT, bytesOf_append]
    have key' := key ((c.reps.length : Nat) : Int) (((lvB (levT t (i : Int)).1 c.reps).length : Nat) : Int) (((lvB (levT t (i : Int)).2.1 c.defs).length : Nat) : Int) _ _ hr hdl
    rw [← hq] at key'
    rw [key', Put_l2 (fun v hv => vOk_pb (h5 v hv)) hvl (by simp only [List.length_append, w4_length]; omega) (by omega) (by omega)]
    rfl

end Go.Proofs.YtjkokaockhecnaaGreatDoorP

namespace Go.Proofs.YtjkokaockhecnaaGreatDoorP
open Go Go.Proofs.YtjkokaockhecnaaGreatDoorA

/-! ### The same columns -/
theorem same_ints {k : Nat} {a b : List Int} (hk : a.length + 3 ≤ k) (hl : a.length ≤ 20000000000000) : quiverlaw0_SameInts.f idb k a b = some (decide (a = b)) := by
  obtain ⟨k, rfl⟩ : ∃ q, k = q + 1 := ⟨k - 1, by omega⟩
  rw [quiverlaw0_SameInts.f_eq]
  by_cases h : a.length = b.length
  · rw [show (((a.length : Nat) : Int) != ((b.length : Nat) : Int)) = false by rw [h]; simp, cF]
    have := loop_all (F := fun n i => quiverlaw0_SameInts.l0 idb k n a b (i : Int)) (p := fun i => decide (a[i]? = b[i]?)) (N := a.length) (E := some true) (Z := some false) ?_ ?_ k (by omega)
    · refine this.trans ?_
      have e : (List.range a.length).all (fun i => decide (a[i]? = b[i]?)) = decide (a = b) := by
        rw [Bool.eq_iff_iff, List.all_eq_true, decide_eq_true_iff]
        constructor
        · intro hq
          refine List.ext_getElem? fun i => ?_
          rcases Nat.lt_or_ge i a.length with hi | hi
          · simpa using hq i (List.mem_range.2 hi)
          · rw [List.getElem?_eq_none hi, List.getElem?_eq_none (by omega)]
        · rintro rfl i _; simp
      rw [e]
      cases decide (a = b) <;> rfl
    · intro n i hi _
      rw [quiverlaw0_SameInts.l0_eq, dT (by omega), cT, rd_get hi, bS, rd_get (show i < b.length by omega), bS, List.getElem?_eq_getElem hi, List.getElem?_eq_getElem (show i < b.length by omega)]
      by_cases hx : a[i] = b[i]
      · rw [show (a[i] != b[i]) = false by rw [hx]; simp, cF, dT (by rw [hx]), cT, wsucc (by omega)]
      · rw [show (a[i] != b[i]) = true by rw [bne_iff_ne]; exact hx, cT, dF (by simpa using hx), cF]
    · intro _ n
      rw [quiverlaw0_SameInts.l0_eq, dF (by omega), cF]
  · rw [show (((a.length : Nat) : Int) != ((b.length : Nat) : Int)) = true by rw [bne_iff_ne]; omega, cT, dF (by rintro rfl; exact h rfl)]
theorem same_texts {k : Nat} {a b : List (List UInt8)} (hk : a.length + 3 ≤ k) (hl : a.length ≤ 20000000000000) : quiverlaw0_SameTexts.f idb k a b = some (decide (a = b)) := by
  obtain ⟨k, rfl⟩ : ∃ q, k = q + 1 := ⟨k - 1, by omega⟩
  rw [quiverlaw0_SameTexts.f_eq]
  by_cases h : a.length = b.length
  · rw [show (((a.length : Nat) : Int) != ((b.length : Nat) : Int)) = false by rw [h]; simp, cF]
    have := loop_all (F := fun n i => quiverlaw0_SameTexts.l0 idb k n a b (i : Int)) (p := fun i => decide (a[i]? = b[i]?)) (N := a.length) (E := some true) (Z := some false) ?_ ?_ k (by omega)
    · refine this.trans ?_
      have e : (List.range a.length).all (fun i => decide (a[i]? = b[i]?)) = decide (a = b) := by
        rw [Bool.eq_iff_iff, List.all_eq_true, decide_eq_true_iff]
        constructor
        · intro hq
          refine List.ext_getElem? fun i => ?_
          rcases Nat.lt_or_ge i a.length with hi | hi
          · simpa using hq i (List.mem_range.2 hi)
          · rw [List.getElem?_eq_none hi, List.getElem?_eq_none (by omega)]
        · rintro rfl i _; simp
      rw [e]
      cases decide (a = b) <;> rfl
    · intro n i hi _
      rw [quiverlaw0_SameTexts.l0_eq, dT (by omega), cT, rd_get hi, bS, rd_get (show i < b.length by omega), bS, List.getElem?_eq_getElem hi, List.getElem?_eq_getElem (show i < b.length by omega)]
      by_cases hx : a[i] = b[i]
      · rw [show (a[i] != b[i]) = false by rw [hx]; simp, cF, dT (by rw [hx]), cT, wsucc (by omega)]
      · rw [show (a[i] != b[i]) = true by rw [bne_iff_ne]; exact hx, cT, dF (by simpa using hx), cF]
    · intro _ n
      rw [quiverlaw0_SameTexts.l0_eq, dF (by omega), cF]
  · rw [show (((a.length : Nat) : Int) != ((b.length : Nat) : Int)) = true by rw [bne_iff_ne]; omega, cT, dF (by rintro rfl; exact h rfl)]
theorem Col.eq_iff {c d : Col} : c = d ↔ c.reps = d.reps ∧ c.defs = d.defs ∧ c.values = d.values := by
  cases c; cases d
  simp only [Col.mk.injEq]
open Classical in
theorem same_col {k : Nat} {c d : Col} (hk : c.reps.length + c.defs.length + c.values.length + 5 ≤ k) (hl : c.reps.length ≤ 20000000000000 ∧ c.defs.length ≤ 20000000000000 ∧ c.values.length ≤ 20000000000000) :
    quiverlaw0_SameColumn.f idb k c d = some (decide (c = d)) := by
  obtain ⟨k, rfl⟩ : ∃ q, k = q + 1 := ⟨k - 1, by omega⟩
  rw [quiverlaw0_SameColumn.f_eq, same_ints (by omega) hl.1, bS]
  by_cases h1 : c.reps = d.reps
  · rw [dT h1, cT, same_ints (by omega) hl.2.1, bS]
    by_cases h2 : c.defs = d.defs
    · rw [dT h2, cT, same_texts (by omega) hl.2.2, bS]
      by_cases h3 : c.values = d.values
      · rw [dT h3, dT (Col.eq_iff.2 ⟨h1, h2, h3⟩)]
      · rw [dF h3, dF fun e => h3 (Col.eq_iff.1 e).2.2]
    · rw [dF h2, cF, dF fun e => h2 (Col.eq_iff.1 e).2.1]
  · rw [dF h1, cF, dF fun e => h1 (Col.eq_iff.1 e).1]

/-! ### Unlike columns -/
theorem PB.kind {t : List Nod} {i : Nat} {v : List UInt8} (h : vOk t (i : Int) v = true) : (knd t i = 0 ∧ ∃ x, In64 x ∧ v = intT x ∧ pgB v = w8 x) ∨ (knd t i = 1 ∧ ∃ b, v = boolT b ∧ pgB v = wd1 (if b then 1 else 0)) ∨ (knd t i = 2 ∧ ∃ l : List UInt8, l.length ≤ 16 ∧ v = bytesT l ∧ pgB v = w4 (l.length : Int) ++ l) := by
  unfold vOk at h
  rw [Bool.and_eq_true, bne_iff_ne, Int.toNat_natCast] at h
  obtain ⟨_, ⟨e, _⟩ | ⟨e, x, hx, rfl⟩ | ⟨e, b, rfl⟩ | ⟨e, l, hl, rfl⟩⟩ := fitB_iff.1 h.2
  · exact absurd e h.1
  · exact .inl ⟨e, x, hx, rfl, (PB.i x hx).eq⟩
  · exact .inr (.inl ⟨e, b, rfl, (PB.b b).eq⟩)
  · exact .inr (.inr ⟨e, l, hl, rfl, (PB.s l hl).eq⟩)
theorem putP_ok {t : List Nod} {a : Int} {c : Col} (h : colMay t a c = true) : (putP t a c).2 = 0 := by unfold putP; rw [if_pos h]
end Go.Proofs.YtjkokaockhecnaaGreatDoorP
