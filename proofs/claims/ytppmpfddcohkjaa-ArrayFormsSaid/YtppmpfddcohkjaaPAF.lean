/- What the functions below the laws answer, in plain lists and numbers; no condition but the sizes that a machine has. -/
import Derived.Test.YtppmpfddcohkjaaPLoop
import Derived.Test.YtppmpfddcohkjaaRoom
import Derived.Laws.BitsLemmas
import Derived.KernelRfl
namespace Go.Proofs.YtppmpfddcohkjaaP
open Go Go.Proofs.YtppmpfddcohkjaaA

theorem Arr.eta (a : Arr) : Arr.mk a.layout a.offset a.length a.valid a.ends a.data a.kids = a := by cases a; rfl
theorem _root_.Go.Proofs.YtppmpfddcohkjaaA.RoomyA.kid {a k : Arr} (h : RoomyA a) (hk : k ∈ a.kids) : RoomyA k := fun d => (h (d + 1)).2.2.2.2.2.2 k hk
theorem _root_.Go.Proofs.YtppmpfddcohkjaaA.RoomyA.kids {a : Arr} (h : RoomyA a) : a.kids.length * 96 ≤ 140737488351232 := (h 1).2.2.2.2.2.1
def bitB (n : Int) : Int := (n + 7) / 8
theorem bitB_eq {n : Int} (h0 : 0 ≤ n) (h1 : n ≤ 1000000) : IntKind.i64.wrap (Int.tdiv (IntKind.i64.wrap (n + 7)) 8) = bitB n := by
  unfold bitB
  rw [wi64 (n + 7) (by omega), Int.tdiv_eq_ediv_of_nonneg (by omega), wi64 _ (by omega)]
theorem bits_Bytes_ok {k : Nat} (hk : 1 ≤ k) {n : Int} (h0 : 0 ≤ n) (h1 : n ≤ 1000000) : bits_Bytes.f idb k n = some (bitB n) := by
  obtain ⟨k, rfl⟩ : ∃ m, k = m + 1 := ⟨k - 1, by omega⟩
  rw [bits_Bytes.f_eq, bitB_eq h0 h1]
def onB (s : List UInt8) (i : Nat) : Bool :=
  match s[i / 8]? with
  | some b => (bitsOp .and .u8 (Int.fdiv (b.toNat : Int) (2 ^ (min (i % 8) IntKind.u8.bits))) 1) == 1
  | none => false
theorem bit_eq {s : List UInt8} {i : Nat} (h : i / 8 < s.length) (hi : i ≤ 1000000) :
    ((rd s (IntKind.i64.wrap (Int.tdiv (i : Int) 8))).bind fun b_1 =>
     bif decide (Int.tmod (i : Int) 8 < 0) then none else
      some ((bitsOp .and .u8 (Int.fdiv (b_1.toNat : Int) (2 ^ (min (Int.tmod (i : Int) 8).toNat IntKind.u8.bits))) 1) == 1)) = some (onB s i) := by
  have e1 : Int.tdiv (i : Int) 8 = ((i / 8 : Nat) : Int) := by rw [Int.tdiv_eq_ediv_of_nonneg (by omega)]; omega
  have e2 : Int.tmod (i : Int) 8 = ((i % 8 : Nat) : Int) := by rw [Int.tmod_eq_emod_of_nonneg (by omega)]; omega
  have h3 : ¬ (((i % 8 : Nat) : Int) < 0) := by omega
  rw [e1, e2, wi64 _ (by omega), rd_get h, bS, decide_eq_false h3, cF, Int.toNat_natCast]
  unfold onB
  rw [List.getElem?_eq_getElem h]
theorem bits_On_ok {k : Nat} (hk : 1 ≤ k) {s : List UInt8} {i : Nat} (h : i / 8 < s.length) (hi : i ≤ 1000000) : bits_On.f idb k s (i : Int) = some (onB s i) := by
  obtain ⟨k, rfl⟩ : ∃ m, k = m + 1 := ⟨k - 1, by omega⟩
  rw [bits_On.f_eq]; exact bit_eq h hi
def thereB (v : List UInt8) (i : Nat) : Bool := v == [] || onB v i
theorem array_There_ok {k : Nat} (hk : 2 ≤ k) {a : Arr} {i : Nat} (h : a.valid = [] ∨ i / 8 < a.valid.length) (hi : i ≤ 1000000) : array_There.f idb k a (i : Int) = some (thereB a.valid i) := by
  obtain ⟨k, rfl⟩ : ∃ m, k = m + 1 := ⟨k - 1, by omega⟩
  rw [array_There.f_eq]
  unfold thereB
  cases hv : (a.valid == []) with
  | true => rw [Bool.not_true, cF, Bool.true_or]
  | false =>
    rcases h with h | h
    · rw [h] at hv; cases hv
    · rw [Bool.not_false, cT, bits_On_ok (by omega) h hi, bS, Bool.false_or]
/-- The number at a place in a row of numbers. -/
def numA (s : List UInt8) (i : Nat) : Int × Int := get s (4 * (i : Int)) 4
theorem numA_good {s : List UInt8} {i : Nat} (h : (numA s i).2 = 0) : 0 ≤ (numA s i).1 ∧ (numA s i).1 ≤ 2147483647 := by
  unfold numA get at h ⊢
  split at h
  · rename_i h1
    rw [if_pos h1]
    split at h
    · cases h
    · rename_i h2
      rw [if_neg h2]
      have : may (numOf (List.drop (4 * (i : Int)).toNat (List.take (4 * (i : Int) + 4).toNat s))) = true := by
        cases hm : may (numOf (List.drop (4 * (i : Int)).toNat (List.take (4 * (i : Int) + 4).toNat s))) with
        | true => rfl
        | false => exact absurd ⟨rfl, hm⟩ h2
      exact may_iff.1 this
  · cases h
theorem array_Number_ok {k : Nat} (hk : 14 ≤ k) {s : List UInt8} (hs : s.length ≤ 4096) {i : Nat} (hi : i ≤ 1000000) : array_Number.f idb k s (i : Int) = some ((numA s i).1, (numA s i).2 == 0) := by
  obtain ⟨k, rfl⟩ : ∃ m, k = m + 1 := ⟨k - 1, by omega⟩
  rw [array_Number.f_eq, wi64 _ (by omega), num_Get_ok (by omega) s (by omega) _ _ (by omega), bS]; rfl
theorem okF {b c : Bool} : (bif b then some c else some false) = some (b && c) := by cases b <;> rfl
theorem okE {b c : Bool} : (bif b then some false else some c) = some (!b && c) := by cases b <;> rfl
def okN (s : List UInt8) (i : Nat) : Bool := (numA s i).2 == 0
def eN (s : List UInt8) (i : Nat) : Int := (numA s i).1
theorem okN_good {s : List UInt8} {i : Nat} (h : okN s i = true) : 0 ≤ eN s i ∧ eN s i ≤ 2147483647 := numA_good (by unfold okN at h; simpa using h)
theorem array_Number_ok' {k : Nat} (hk : 14 ≤ k) {s : List UInt8} (hs : s.length ≤ 4096) {i : Nat} (hi : i ≤ 1000000) : array_Number.f idb k s (i : Int) = some (eN s i, okN s i) := array_Number_ok hk hs hi
def endOK (s : List UInt8) (most from_ apart : Int) (i : Nat) : Bool :=
  okN s i && (decide (eN s i ≤ most) && (decide (i = 0) || (decide (eN s (i - 1) ≤ eN s i) && (decide ((i : Int) ≤ from_) || decide (eN s i - eN s (i - 1) ≤ apart)))))
def endsB (s : List UInt8) (rows : Nat) (most from_ apart : Int) : Bool := (List.range (rows + 1)).all (endOK s most from_ apart)
def lastE (s : List UInt8) (i : Nat) : Int := if i = 0 then 0 else eN s (i - 1)
theorem lastE_succ (s : List UInt8) (i : Nat) : lastE s (i + 1) = eN s i := by simp [lastE]
theorem array_ends_ok {k : Nat} (hk : 200 ≤ k) {s : List UInt8} (hs : s.length ≤ 4096) {rows : Nat} (hr : rows ≤ 128) (most from_ apart : Int) :
    array_ends.f idb k s (rows : Int) most from_ apart = some (endsB s rows most from_ apart) := by
  obtain ⟨k, rfl⟩ : ∃ m, k = m + 1 := ⟨k - 1, by omega⟩
  rw [array_ends.f_eq, wsucc (by omega)]
  have := loop_all (F := fun n i => array_ends.l0 idb k n s most from_ apart (lastE s i) ((rows + 1 : Nat) : Int) (i : Int)) (p := endOK s most from_ apart) (N := rows + 1) (E := some true) (Z := some false) ?_ ?_ k (by omega)
  · refine Eq.trans this ?_
    show _ = some ((List.range (rows + 1)).all (endOK s most from_ apart))
    cases (List.range (rows + 1)).all (endOK s most from_ apart) <;> rfl
  · intro n i hi hp
    show array_ends.l0 idb k (n + 1) s most from_ apart (lastE s i) ((rows + 1 : Nat) : Int) (i : Int) = bif endOK s most from_ apart i then array_ends.l0 idb k n s most from_ apart (lastE s (i + 1)) ((rows + 1 : Nat) : Int) ((i + 1 : Nat) : Int) else some false
    rw [array_ends.l0_eq, dT (show (i : Int) < ((rows + 1 : Nat) : Int) by omega), cT, array_Number_ok' (by omega) hs (by omega), bS, lastE_succ, wsucc (by omega)]
    unfold endOK
    cases ho : okN s i with
    | false => rfl
    | true =>
      have g1 := okN_good ho
      simp only [Bool.not_true, Bool.not_false, cT, Bool.true_and]
      by_cases h1 : eN s i ≤ most
      · rw [dF (show ¬ eN s i > most by omega), dT h1, Bool.not_false, cT, Bool.true_and]
        by_cases h2 : i = 0
        · subst h2
          rw [dF (show ¬ ((0 : Nat) : Int) > 0 by omega), cF]; simp
        · have hq := hp (i - 1) (by omega)
          unfold endOK at hq
          rw [Bool.and_eq_true] at hq
          have g2 := okN_good hq.1
          have e1 : lastE s i = eN s (i - 1) := by simp [lastE, h2]
          rw [dT (show (i : Int) > 0 by omega), cT, dF h2, Bool.false_or, e1]
          by_cases h3 : eN s (i - 1) ≤ eN s i
          · rw [dF (show ¬ eN s i < eN s (i - 1) by omega), Bool.not_false, cT, dT h3, Bool.true_and, wi64 _ (by omega)]
            by_cases h4 : (i : Int) ≤ from_
            · rw [dF (show ¬ (i : Int) > from_ by omega), cF, dT h4, Bool.true_or, cT]
            · rw [dT (show (i : Int) > from_ by omega), cT, dF h4, Bool.false_or]
              by_cases h5 : eN s i - eN s (i - 1) ≤ apart
              · rw [dF (show ¬ eN s i - eN s (i - 1) > apart by omega), cF, dT h5, cT]
              · rw [dT (show eN s i - eN s (i - 1) > apart by omega), cT, dF h5, cF]
          · rw [dT (show eN s i < eN s (i - 1) by omega), Bool.not_true, cF, dF h3, Bool.false_and, cF]
      · rw [dT (show eN s i > most by omega), dF h1, Bool.not_true, cF, Bool.false_and, cF]
  · intro _ n
    show array_ends.l0 idb k (n + 1) s most from_ apart (lastE s (rows + 1)) ((rows + 1 : Nat) : Int) ((rows + 1 : Nat) : Int) = some true
    rw [array_ends.l0_eq, dF (by omega), cF]
structure Room1 (x : Arr) : Prop where
  off : -9223372036854775808 ≤ x.offset ∧ x.offset ≤ 9223372036854775807
  len : -9223372036854775808 ≤ x.length ∧ x.length ≤ 9223372036854775807
  valid : (x.valid.length : Int) ≤ 140737488351232
  ends : (x.ends.length : Int) ≤ 140737488351232
  data : (x.data.length : Int) ≤ 140737488351232
  kids : x.kids.length * 96 ≤ 140737488351232
theorem _root_.Go.Proofs.YtppmpfddcohkjaaA.RoomyA.one {x : Arr} (h : RoomyA x) : Room1 x := let ⟨a, b, c, d, e, f, _⟩ := h 1; ⟨a, b, c, d, e, f⟩
def rowsN (x : Arr) : Nat := (x.offset + x.length).toNat
/-- An array's numbers, its buffers. -/
def bufB (null : Bool) (x : Arr) : Bool :=
  decide (0 ≤ x.offset) && (decide (0 ≤ x.length) && (decide (x.offset + x.length ≤ 64) && (decide (x.valid.length ≤ 4096) && (decide (x.ends.length ≤ 4096) && (decide (x.data.length ≤ 4096) &&
    (x.valid == [] || (null && decide (bitB (x.offset + x.length) ≤ (x.valid.length : Int)))))))))
structure Buf (null : Bool) (x : Arr) : Prop where
  off : 0 ≤ x.offset
  len : 0 ≤ x.length
  rows : x.offset + x.length ≤ 64
  valid : x.valid.length ≤ 4096
  ends : x.ends.length ≤ 4096
  data : x.data.length ≤ 4096
  there : x.valid = [] ∨ null = true ∧ bitB (x.offset + x.length) ≤ (x.valid.length : Int)
theorem bufB_iff {null : Bool} {x : Arr} : bufB null x = true ↔ Buf null x := by
  unfold bufB
  simp only [Bool.and_eq_true, Bool.or_eq_true, decide_eq_true_eq, beq_iff_eq]
  constructor
  · rintro ⟨a, b, c, d, e, f, g⟩; exact ⟨a, b, c, d, e, f, g⟩
  · rintro ⟨a, b, c, d, e, f, g⟩; exact ⟨a, b, c, d, e, f, g⟩
theorem Buf.rowsEq {null : Bool} {x : Arr} (h : Buf null x) : ((rowsN x : Nat) : Int) = x.offset + x.length := by
  have := h.off; have := h.len; unfold rowsN; omega
theorem Buf.rowsN_le {null : Bool} {x : Arr} (h : Buf null x) : rowsN x ≤ 64 := by
  have := h.rowsEq; have := h.rows; omega
theorem Buf.inV {null : Bool} {x : Arr} (h : Buf null x) {i : Nat} (hi : i < rowsN x) : x.valid = [] ∨ i / 8 < x.valid.length := by
  rcases h.there with h1 | ⟨_, h1⟩
  · exact .inl h1
  · right
    rw [← h.rowsEq] at h1
    unfold bitB at h1
    omega
theorem array_buffers_ok {k : Nat} (hk : 2 ≤ k) (nd : Nod) {x : Arr} (hr : Room1 x) : array_buffers.f idb k nd x = some (bufB nd.null x) := by
  obtain ⟨k, rfl⟩ : ∃ m, k = m + 1 := ⟨k - 1, by omega⟩
  obtain ⟨⟨o1, o2⟩, ⟨l1, l2⟩, v1, e1, d1, k1⟩ := hr
  rw [array_buffers.f_eq]
  unfold bufB
  by_cases h1 : 0 ≤ x.offset
  · rw [dF (show ¬ x.offset < 0 by omega), dT h1, Bool.not_false, cT, Bool.true_and]
    by_cases h2 : 0 ≤ x.length
    · rw [dF (show ¬ x.length < 0 by omega), dT h2, Bool.not_false, cT, Bool.true_and]
      by_cases h3 : x.offset ≤ 64
      · rw [dF (show ¬ x.offset > 64 by omega), Bool.not_false, cT, wi64 _ (by omega)]
        by_cases h4 : x.offset + x.length ≤ 64
        · rw [dF (show ¬ x.length > 64 - x.offset by omega), cF, dT h4, Bool.true_and]
          rw [wi64 (x.offset + x.length) (by omega), bits_Bytes_ok (by omega) (by omega) (by omega)]
          have hm : decide ((bif decide (((x.data).length : Int) > (bif decide (((x.ends).length : Int) > ((x.valid).length : Int)) then ((x.ends).length : Int) else ((x.valid).length : Int))) then ((x.data).length : Int) else (bif decide (((x.ends).length : Int) > ((x.valid).length : Int)) then ((x.ends).length : Int) else ((x.valid).length : Int))) > 4096) = !(decide (x.valid.length ≤ 4096) && (decide (x.ends.length ≤ 4096) && decide (x.data.length ≤ 4096))) := by
            by_cases a : ((x.ends).length : Int) > ((x.valid).length : Int)
            · rw [dT a, cT]
              by_cases b : ((x.data).length : Int) > ((x.ends).length : Int)
              · rw [dT b, cT]
                by_cases c : x.data.length ≤ 4096
                · rw [dF (by omega), dT (by omega), dT (by omega), dT c]; rfl
                · rw [dT (by omega), dF c]; simp
              · rw [dF b, cF]
                by_cases c : x.ends.length ≤ 4096
                · rw [dF (by omega), dT (by omega), dT (by omega), dT (by omega)]; rfl
                · rw [dT (by omega), dF c]; simp
            · rw [dF a, cF]
              by_cases b : ((x.data).length : Int) > ((x.valid).length : Int)
              · rw [dT b, cT]
                by_cases c : x.data.length ≤ 4096
                · rw [dF (by omega), dT (by omega), dT (by omega), dT c]; rfl
                · rw [dT (by omega), dF c]; simp
              · rw [dF b, cF]
                by_cases c : x.valid.length ≤ 4096
                · rw [dF (by omega), dT (by omega), dT (by omega), dT (by omega)]; rfl
                · rw [dT (by omega), dF c]; simp
          rw [hm, bS]
          have he : decide ((x.valid.length : Int) ≥ bitB (x.offset + x.length)) = decide (bitB (x.offset + x.length) ≤ (x.valid.length : Int)) := rfl
          rw [he]
          generalize decide (x.valid.length ≤ 4096) = p1
          generalize decide (x.ends.length ≤ 4096) = p2
          generalize decide (x.data.length ≤ 4096) = p3
          generalize (x.valid == []) = p4
          generalize nd.null = p5
          generalize decide (bitB (x.offset + x.length) ≤ (x.valid.length : Int)) = p6
          revert p1 p2 p3 p4 p5 p6; decide
        · rw [dT (show x.length > 64 - x.offset by omega), cT, dF h4, Bool.false_and]
      · rw [dT (show x.offset > 64 by omega), Bool.not_true, cF, dF (show ¬ x.offset + x.length ≤ 64 by omega), Bool.false_and]
    · rw [dT (show x.length < 0 by omega), dF h2, Bool.not_true, cF, Bool.false_and]
  · rw [dT (show x.offset < 0 by omega), dF h1, Bool.not_true, cF, Bool.false_and]
def dictB (x kid : Arr) : Bool :=
  kid.valid == [] && (decide (4 * rowsN x ≤ x.data.length) &&
    (List.range (rowsN x)).all fun i => decide ((i : Int) < x.offset) || (!thereB x.valid i || (okN x.data i && decide (eN x.data i < kid.length))))
def runB (x kid : Arr) : Bool :=
  x.valid == [] && (((x.data.length : Int) == 4 * kid.length) &&
    ((List.range kid.length.toNat).all (fun i => okN x.data i && decide (lastE x.data i < eN x.data i)) && decide (x.offset + x.length ≤ lastE x.data kid.length.toNat)))
theorem array_dict_l0 {null : Bool} {x kid : Arr} (hb : Buf null x) {k : Nat} (hk : 100 ≤ k) (n : Nat) (hn : 65 ≤ n) :
    array_dict.l0 idb k n x.layout x.offset x.length x.valid x.ends x.data x.kids (some kid) x.offset =
      some ((List.range (rowsN x)).all fun i => decide ((i : Int) < x.offset) || (!thereB x.valid i || (okN x.data i && decide (eN x.data i < kid.length)))) := by
  have hrw := hb.rowsEq
  have hrl := hb.rowsN_le
  have h0 := hb.off
  have h1 := hb.len
  -- the rows ahead of the first one are not looked at
  have key := loop_all (F := fun n i => array_dict.l0 idb k n x.layout x.offset x.length x.valid x.ends x.data x.kids (some kid) ((x.offset.toNat + i : Nat) : Int)) (p := fun i => !thereB x.valid (x.offset.toNat + i) || (okN x.data (x.offset.toNat + i) && decide (eN x.data (x.offset.toNat + i) < kid.length)))
    (N := x.length.toNat) (E := some true) (Z := some false) ?_ ?_ n (by omega)
  · have e : ((x.offset.toNat + 0 : Nat) : Int) = x.offset := by omega
    simp only [e] at key
    rw [key]
    have e2 : ((List.range (rowsN x)).all fun i => decide ((i : Int) < x.offset) || (!thereB x.valid i || (okN x.data i && decide (eN x.data i < kid.length)))) =
        (List.range x.length.toNat).all fun i => !thereB x.valid (x.offset.toNat + i) || (okN x.data (x.offset.toNat + i) && decide (eN x.data (x.offset.toNat + i) < kid.length)) := by
      rw [Bool.eq_iff_iff, range_all_iff, range_all_iff]
      constructor
      · intro h i hi
        have := h (x.offset.toNat + i) (by omega)
        rw [dF (show ¬ ((x.offset.toNat + i : Nat) : Int) < x.offset by omega), Bool.false_or] at this
        exact this
      · intro h i hi
        by_cases hlt : (i : Int) < x.offset
        · rw [dT hlt]; rfl
        · have := h (i - x.offset.toNat) (by omega)
          rw [show x.offset.toNat + (i - x.offset.toNat) = i by omega] at this
          rw [this, Bool.or_true]
    rw [e2]
    cases (List.range x.length.toNat).all fun i => !thereB x.valid (x.offset.toNat + i) || (okN x.data (x.offset.toNat + i) && decide (eN x.data (x.offset.toNat + i) < kid.length)) <;> rfl
  · intro n i hi _
    have w : IntKind.i64.wrap (((x.offset.toNat + i : Nat) : Int) + 1) = ((x.offset.toNat + (i + 1) : Nat) : Int) := by rw [wi64 _ (by omega)]; omega
    rw [array_dict.l0_eq, wi64 (x.offset + x.length) (by omega), dT (by omega), cT, array_Number_ok' (by omega) hb.data (by omega), bS, Arr.eta, array_There_ok (by omega) (hb.inV (by omega)) (by omega), bS, w]
    cases thereB x.valid (x.offset.toNat + i) with
    | false => rfl
    | true =>
      cases okN x.data (x.offset.toNat + i) with
      | false => rfl
      | true =>
        simp only [Bool.not_true, Bool.not_false, cT, Bool.true_and, Bool.false_or, bS]
        by_cases h : eN x.data (x.offset.toNat + i) < kid.length
        · rw [dT h, dF (by omega), cT, cF]
        · rw [dF h, dT (by omega), cT, cF]
  · intro _ n
    rw [array_dict.l0_eq, wi64 (x.offset + x.length) (by omega), dF (by omega), cF]
theorem array_run_l0 {x : Arr} {m : Nat} (hm : m ≤ 64) (ho : x.offset + x.length ≤ 64 ∧ 0 ≤ x.offset + x.length) (hd : x.data.length ≤ 4096) {k : Nat} (hk : 100 ≤ k) (n : Nat) (hn : 65 ≤ n) :
    array_run.l0 idb k n x.layout x.offset x.length x.valid x.ends x.data x.kids 0 (m : Int) 0 =
      some ((List.range m).all (fun i => okN x.data i && decide (lastE x.data i < eN x.data i)) && decide (x.offset + x.length ≤ lastE x.data m)) := by
  have key := loop_all (F := fun n i => array_run.l0 idb k n x.layout x.offset x.length x.valid x.ends x.data x.kids (lastE x.data i) (m : Int) (i : Int)) (p := fun i => okN x.data i && decide (lastE x.data i < eN x.data i))
    (N := m) (E := some (decide (x.offset + x.length ≤ lastE x.data m))) (Z := some false) ?_ ?_ n (by omega)
  · refine Eq.trans key ?_
    rw [okF]
  · intro n i hi _
    rw [array_run.l0_eq, dT (by omega), cT, array_Number_ok' (by omega) hd (by omega), bS, lastE_succ, wsucc (by omega)]
    cases okN x.data i with
    | false => rfl
    | true =>
      simp only [Bool.not_true, Bool.not_false, cT, Bool.true_and]
      by_cases h : lastE x.data i < eN x.data i
      · rw [dT h, dF (by omega), cT, cF]
      · rw [dF h, dT (by omega), cT, cF]
  · intro _ n
    rw [array_run.l0_eq, dF (by omega), cF, wi64 _ (by omega)]
theorem getD_get {α : Type} {l : List α} {j : Nat} {d : α} (h : j < l.length) : l.getD j d = l[j] := by simp [List.getD, h]
def kidA (x : Arr) (j : Nat) : Arr := x.kids.getD j x
def ksT (t : List Nod) (a : Int) (j : Nat) : Int := (kidsL t a).getD j 0
/-- What an array of LayoutPlain has of its kind. -/
def kindM (t : List Nod) (i : Nat) (x : Arr) : Bool :=
  if knd t i = 0 then x.ends == [] && decide (8 * rowsN x ≤ x.data.length)
  else if knd t i = 1 then x.ends == [] && decide (bitB (x.offset + x.length) ≤ (x.data.length : Int))
  else if knd t i = 2 then endsB x.ends (rowsN x) (x.data.length : Int) x.offset 16
  else if knd t i = 3 then x.data == [] && endsB x.ends (rowsN x) (kidA x 0).length 0 64
  else x.ends == [] && (x.data == [] && !x.kids.any fun c => decide (c.length < x.offset + x.length))
/-- May an array of a node be? -/
def mayA : Nat → List Nod → Int → Arr → Bool
  | 0, _, _, _ => false
  | f + 1, t, a, x => nodeB t a && (bufB (nul t a.toNat) x &&
      if x.layout = 0 then decide (x.kids.length = (kidsL t a).length) && ((List.range x.kids.length).all (fun j => mayA f t (ksT t a j) (kidA x j)) && kindM t a.toNat x)
      else !inner (knd t a.toNat) && (x.ends == [] && (decide (x.kids.length = 1) && ((kidA x 0).layout == 0 && (mayA f t a (kidA x 0) &&
        if x.layout = 1 then dictB x (kidA x 0) else if x.layout = 2 then runB x (kidA x 0) else false)))))
def need (t : List Nod) (a : Int) (x : Arr) : Nat := 2 * (t.length - a.toNat) + (if x.layout = 0 then 0 else 1)
theorem kidA_mem {x : Arr} {j : Nat} (h : j < x.kids.length) : kidA x j ∈ x.kids := by
  unfold kidA; rw [getD_get h]; exact List.getElem_mem h
theorem kidA_get {x : Arr} {j : Nat} (h : j < x.kids.length) : x.kids[j] = kidA x j := by
  unfold kidA; rw [getD_get h]
theorem ksT_get {t : List Nod} {a : Int} {j : Nat} (h : j < (kidsL t a).length) : (kidsL t a)[j]? = some (ksT t a j) := by
  unfold ksT; rw [getD_get h, List.getElem?_eq_getElem h]
theorem ksT_gt {t : List Nod} (hm : mayT t = true) {i j : Nat} (hj : j < (kidsL t (i : Int)).length) : ∃ q : Nat, ksT t (i : Int) j = (q : Int) ∧ i < q ∧ q < t.length := by
  have hmem : ksT t (i : Int) j ∈ kidsL t (i : Int) := by unfold ksT; rw [getD_get hj]; exact List.getElem_mem hj
  obtain ⟨q, h1, _, h3, h4⟩ := mem_kidsL.1 hmem
  have := (mayT_stands hm).up h1
  exact ⟨q, h4, by omega, h1⟩
theorem need_kid {t : List Nod} (hm : mayT t = true) {i j : Nat} {x : Arr} (y : Arr) (hj : j < (kidsL t (i : Int)).length) : need t (ksT t (i : Int) j) y < need t (i : Int) x := by
  obtain ⟨q, e, h1, h2⟩ := ksT_gt hm hj
  unfold need
  rw [e, Int.toNat_natCast, Int.toNat_natCast]
  split <;> split <;> omega
theorem mayA_same : ∀ (f g : Nat) (t : List Nod) (a : Int) (x : Arr), need t a x < f → need t a x < g → mayA f t a x = mayA g t a x
  | 0, _, _, _, _, h, _ => absurd h (Nat.not_lt_zero _)
  | _, 0, _, _, _, _, h => absurd h (Nat.not_lt_zero _)
  | f + 1, g + 1, t, a, x, hf, hg => by
    unfold mayA
    cases hn : nodeB t a with
    | false => rfl
    | true =>
      obtain ⟨hm, i, hi, rfl⟩ := nodeB_may hn
      rw [Bool.true_and, Bool.true_and]
      congr 1
      by_cases hl : x.layout = 0
      · rw [if_pos hl, if_pos hl]
        by_cases hk : x.kids.length = (kidsL t (i : Int)).length
        · have : ((List.range x.kids.length).all fun j => mayA f t (ksT t (i : Int) j) (kidA x j)) = ((List.range x.kids.length).all fun j => mayA g t (ksT t (i : Int) j) (kidA x j)) := by
            rw [Bool.eq_iff_iff, range_all_iff, range_all_iff]
            have e : ∀ j, j < x.kids.length → mayA f t (ksT t (i : Int) j) (kidA x j) = mayA g t (ksT t (i : Int) j) (kidA x j) := fun j hj => by
              have := need_kid hm (x := x) (kidA x j) (i := i) (j := j) (by omega)
              exact mayA_same f g t _ _ (by omega) (by omega)
            exact ⟨fun h j hj => by rw [← e j hj]; exact h j hj, fun h j hj => by rw [e j hj]; exact h j hj⟩
          rw [this]
        · rw [dF hk, Bool.false_and, Bool.false_and]
      · rw [if_neg hl, if_neg hl]
        cases hk : (kidA x 0).layout == 0 with
        | false => rw [Bool.false_and]; simp
        | true =>
          rw [beq_iff_eq] at hk
          have h1 : need t (i : Int) (kidA x 0) < need t (i : Int) x := by unfold need; rw [if_neg hl, if_pos hk]; omega
          rw [mayA_same f g t (i : Int) (kidA x 0) (by omega) (by omega)]
def arrB (t : List Nod) (a : Int) (x : Arr) : Bool := mayA 20 t a x
theorem nodeB_len {t : List Nod} {a : Int} (h : nodeB t a = true) : t.length ≤ 8 := by have := mayT_length (nodeB_may h).1; omega
theorem mayA_arrB {f : Nat} {t : List Nod} {a : Int} {x : Arr} (hf : need t a x < f) : mayA f t a x = arrB t a x := by
  by_cases h : need t a x < 20
  · exact mayA_same f 20 t a x hf h
  · cases hn : nodeB t a with
    | false =>
      obtain ⟨f, rfl⟩ : ∃ m, f = m + 1 := ⟨f - 1, by omega⟩
      unfold arrB mayA; rw [hn, Bool.false_and, Bool.false_and]
    | true =>
      have := nodeB_len hn
      unfold need at h
      split at h <;> omega
theorem need_lt {t : List Nod} {a : Int} {x : Arr} (h : nodeB t a = true) : need t a x < 18 := by
  have := nodeB_len h
  unfold need; split <;> omega
/-- The rule of it. -/
theorem arrB_eq (t : List Nod) (a : Int) (x : Arr) : arrB t a x = (nodeB t a && (bufB (nul t a.toNat) x &&
      if x.layout = 0 then decide (x.kids.length = (kidsL t a).length) && ((List.range x.kids.length).all (fun j => arrB t (ksT t a j) (kidA x j)) && kindM t a.toNat x)
      else !inner (knd t a.toNat) && (x.ends == [] && (decide (x.kids.length = 1) && ((kidA x 0).layout == 0 && (arrB t a (kidA x 0) &&
        if x.layout = 1 then dictB x (kidA x 0) else if x.layout = 2 then runB x (kidA x 0) else false)))))) := by
  cases hn : nodeB t a with
  | false => unfold arrB mayA; rw [hn, Bool.false_and]; rfl
  | true =>
    have h1 := need_lt (x := x) hn
    rw [← mayA_arrB (f := 21) (by omega)]
    unfold mayA
    rw [hn]
    rfl
theorem short_ok {k : Nat} (hk : 1 ≤ k) (x : Arr) (r : Int) : array_plain_1.f idb k x r = some (decide (x.length < r)) := by
  obtain ⟨k, rfl⟩ : ∃ m, k = m + 1 := ⟨k - 1, by omega⟩
  rw [array_plain_1.f_eq]
theorem index_l0 (l : List Arr) (r : Int) (hl : l.length ≤ 1000000) {k : Nat} (hk : 1 ≤ k) : ∀ (d i : Nat), i + d = l.length → ∀ n, d < n →
    ∃ v, slices_IndexFunc_api_Array_api_Array_array_plain_1.l0 idb k n l r (l.length : Int) (i : Int) = some v ∧ decide (v ≥ 0) = (l.drop i).any fun c => decide (c.length < r)
  | 0, i, h, n, hn => by
    obtain ⟨n, rfl⟩ : ∃ m, n = m + 1 := ⟨n - 1, by omega⟩
    rw [slices_IndexFunc_api_Array_api_Array_array_plain_1.l0_eq, dF (by omega), cF, List.drop_of_length_le (by omega)]
    exact ⟨-1, rfl, rfl⟩
  | d + 1, i, h, n, hn => by
    obtain ⟨n, rfl⟩ : ∃ m, n = m + 1 := ⟨n - 1, by omega⟩
    have hlt : i < l.length := by omega
    rw [slices_IndexFunc_api_Array_api_Array_array_plain_1.l0_eq, dT (by omega), cT, rd_get hlt, bS, short_ok hk, bS, List.drop_eq_getElem_cons hlt, List.any_cons, wsucc (by omega)]
    cases hc : decide ((l[i]).length < r) with
    | true => exact ⟨(i : Int), rfl, by rw [dT (by omega)]; rfl⟩
    | false => simpa using index_l0 l r hl hk d (i + 1) (by omega) n (by omega)
theorem contains_ok {k : Nat} (l : List Arr) (r : Int) (hl : l.length ≤ 100) (hk : 200 ≤ k) : slices_ContainsFunc_api_Array_api_Array_array_plain_1.f idb k l r = some (l.any fun c => decide (c.length < r)) := by
  obtain ⟨k, rfl⟩ : ∃ m, k = m + 2 := ⟨k - 2, by omega⟩
  obtain ⟨v, h1, h2⟩ := index_l0 l r (by omega) (k := k) (by omega) l.length 0 (by omega) k (by omega)
  rw [slices_ContainsFunc_api_Array_api_Array_array_plain_1.f_eq, slices_IndexFunc_api_Array_api_Array_array_plain_1.f_eq]
  rw [show ((0 : Nat) : Int) = 0 from rfl] at h1
  rw [h1, bS, h2]
  simp
theorem array_plain_ok {f : Nat} {t : List Nod} (hm : mayT t = true) {i : Nat} (hi : i < t.length) {x : Arr} (hb : Buf (nul t i) x) (hx : RoomyA x) {k : Nat} (hk : 300 ≤ k)
    (ih : ∀ j, j < (kidsL t (i : Int)).length → j < x.kids.length → array_May.f idb k t (ksT t (i : Int) j) (kidA x j) = some (mayA f t (ksT t (i : Int) j) (kidA x j)))
    (h64 : ∀ j, j < x.kids.length → mayA f t (ksT t (i : Int) j) (kidA x j) = true → 0 ≤ (kidA x j).length ∧ (kidA x j).length ≤ 64) :
    array_plain.f idb (k + 1) t (i : Int) x = some (decide (x.kids.length = (kidsL t (i : Int)).length) && ((List.range x.kids.length).all (fun j => mayA f t (ksT t (i : Int) j) (kidA x j)) && kindM t i x)) := by
  have hn := nodeB_of hm hi
  have hkl := kidsU_length t (i : Int) t.length
  have htl := mayT_length hm
  have hkb := ((mayT_iff t).1 hm).2.2 i hi
  have hrw := hb.rowsEq
  have hrl := hb.rowsN_le
  rw [array_plain.f_eq, types_Kids_ok (by omega), bS]
  unfold kidsT
  rw [if_pos hn]
  by_cases hl : x.kids.length = (kidsL t (i : Int)).length
  · have e1 : (((x.kids.length : Nat) : Int) != ((kidsL t (i : Int)).length : Int)) = false := by rw [hl]; simp
    have hl8 : x.kids.length ≤ 8 := by unfold kidsL at hl; omega
    simp only
    rw [e1, cF, dT hl, Bool.true_and]
    have key := loop_all (F := fun n j => array_plain.l0 idb k n t (i : Int) x.layout x.offset x.length x.valid x.ends x.data x.kids ((kidsL t (i : Int)).length : Int) (j : Int) (IntKind.i64.wrap (x.offset + x.length)) (kidsL t (i : Int)))
      (p := fun j => mayA f t (ksT t (i : Int) j) (kidA x j)) (N := x.kids.length) (E := some (kindM t i x)) (Z := some false) ?_ ?_ k (by omega)
    · refine Eq.trans key ?_
      rw [okF]
    · intro n j hj _
      rw [array_plain.l0_eq, dT (by omega), cT, dT (show (0 : Int) ≤ (j : Int) by omega)]
      simp only [Bool.and_self, cT, Int.toNat_natCast]
      rw [ksT_get (by omega), bS, rd_get hj, bS, kidA_get hj, ih j (by omega) hj, bS, wsucc (by omega)]
      cases mayA f t (ksT t (i : Int) j) (kidA x j) <;> rfl
    · intro hall n
      rw [array_plain.l0_eq, dF (by omega), cF, rd_get hi, bS, knd_get hi, ← hrw, wi64 ((rowsN x : Nat) : Int) (by omega), wi64 (8 * ((rowsN x : Nat) : Int)) (by omega)]
      unfold kindM
      by_cases k0 : knd t i = 0
      · rw [k0, if_pos rfl]
        simp only [BEq.rfl, cT]
        rw [okF]
        congr 2
        by_cases h : 8 * rowsN x ≤ x.data.length
        · rw [dT h, dT (by omega)]
        · rw [dF h, dF (by omega)]
      · rw [if_neg k0, show (knd t i == 0) = false by simpa using k0, cF]
        by_cases k1 : knd t i = 1
        · rw [k1, if_pos rfl]
          simp only [BEq.rfl, cT]
          rw [bits_Bytes_ok (by omega) (by omega) (by omega), bS, okF, hrw]
        · rw [if_neg k1, show (knd t i == 1) = false by simpa using k1, cF]
          by_cases k2 : knd t i = 2
          · rw [k2, if_pos rfl]
            simp only [BEq.rfl, cT]
            rw [array_ends_ok (by omega) hb.ends (by omega), bS]
          · rw [if_neg k2, show (knd t i == 2) = false by simpa using k2, cF]
            by_cases k3 : knd t i = 3
            · have hk1 : 0 < x.kids.length := by
                have := hkb.1
                unfold kidsB at this
                rw [k3] at this
                simp at this
                omega
              rw [k3, if_pos rfl]
              simp only [BEq.rfl, cT]
              have hr0 := rd_get hk1
              rw [kidA_get hk1] at hr0
              rw [show ((0 : Nat) : Int) = 0 from rfl] at hr0
              rw [hr0, bS, array_ends_ok (by omega) hb.ends (by omega), bS, okF]
            · rw [if_neg k3, show (knd t i == 3) = false by simpa using k3, cF, contains_ok _ _ (by omega) (by omega), bS, okF, okF, hrw]
  · have e1 : (((x.kids.length : Nat) : Int) != ((kidsL t (i : Int)).length : Int)) = true := by rw [bne_iff_ne]; omega
    simp only
    rw [e1, cT, dF hl, Bool.false_and]
theorem array_one_ok {f : Nat} {t : List Nod} {i : Nat} (hi : i < t.length) {x : Arr} {k : Nat} (hk : 300 ≤ k)
    (ih : 0 < x.kids.length → (kidA x 0).layout = 0 → array_May.f idb k t (i : Int) (kidA x 0) = some (mayA f t (i : Int) (kidA x 0))) :
    ∃ o, array_one.f idb (k + 1) t (i : Int) x = some (o, !inner (knd t i) && (x.ends == [] && (decide (x.kids.length = 1) && ((kidA x 0).layout == 0 && mayA f t (i : Int) (kidA x 0))))) ∧
      (x.kids.length = 1 → inner (knd t i) = false → x.ends = [] → o = some (kidA x 0)) := by
  rw [array_one.f_eq, rd_get hi, bS, knd_get hi, types_Inner_ok (by omega), bS]
  cases h1 : inner (knd t i) with
  | true => exact ⟨none, rfl, fun _ h => by cases h⟩
  | false =>
    rw [Bool.not_false, cT]
    by_cases h2 : x.ends = []
    · rw [show (x.ends != []) = false by rw [h2]; rfl, Bool.not_false, cT, show (x.ends == []) = true by rw [h2]; rfl]
      by_cases h3 : x.kids.length = 1
      · have h0 : 0 < x.kids.length := by omega
        have hr0 := rd_get h0
        rw [kidA_get h0, show ((0 : Nat) : Int) = 0 from rfl] at hr0
        rw [show (((x.kids.length : Nat) : Int) != 1) = false by rw [h3]; rfl, cF, hr0, bS, Arr.eta, dT h3]
        cases h4 : (kidA x 0).layout == 0 with
        | false => exact ⟨some (kidA x 0), rfl, fun _ _ _ => rfl⟩
        | true =>
          rw [cT, ih h0 (by simpa using h4), bS]
          exact ⟨some (kidA x 0), by simp, fun _ _ _ => rfl⟩
      · rw [show (((x.kids.length : Nat) : Int) != 1) = true by rw [bne_iff_ne]; omega, cT, dF h3]
        exact ⟨none, rfl, fun h => absurd h h3⟩
    · rw [show (x.ends != []) = true by simpa using h2, Bool.not_true, cF, show (x.ends == []) = false by simpa using h2]
      exact ⟨none, rfl, fun _ _ h => absurd h h2⟩
theorem mayA_len {f : Nat} {t : List Nod} {a : Int} {x : Arr} (h : mayA f t a x = true) : 0 ≤ x.length ∧ x.length ≤ 64 := by
  cases f with
  | zero => cases h
  | succ f =>
    unfold mayA at h
    simp only [Bool.and_eq_true] at h
    have hb := bufB_iff.1 h.2.1
    exact ⟨hb.len, by have := hb.off; have := hb.rows; omega⟩
theorem array_May_ok : ∀ (f : Nat) (t : List Nod) (a : Int) (x : Arr), need t a x < f → RoomyA x → ∀ k, 400 + 5 * f ≤ k → array_May.f idb k t a x = some (mayA f t a x)
  | 0, _, _, _, h, _, _, _ => absurd h (Nat.not_lt_zero _)
  | f + 1, t, a, x, hf, hx, k, hk => by
    obtain ⟨k, rfl⟩ : ∃ m, k = m + 3 := ⟨k - 3, by omega⟩
    rw [array_May.f_eq, types_Node_ok (by omega), bS]
    unfold mayA
    cases hn : nodeB t a with
    | false => rfl
    | true =>
      obtain ⟨hm, i, hi, rfl⟩ := nodeB_may hn
      rw [Bool.not_true, Bool.not_false, cT, rd_get hi, bS, array_buffers_ok (by omega) _ hx.one, bS, nul_get hi, Int.toNat_natCast]
      cases hb : bufB (nul t i) x with
      | false => rfl
      | true =>
        have hB := bufB_iff.1 hb
        rw [Bool.not_true, cF, Bool.true_and, Bool.true_and]
        by_cases h0 : x.layout = 0
        · rw [if_pos h0, show (x.layout == 0) = true by simpa using h0, cT]
          rw [array_plain_ok (f := f) hm hi hB hx (by omega) (fun j hj hj' => array_May_ok f t _ _ (by have := need_kid hm (x := x) (kidA x j) hj; omega) (hx.kid (kidA_mem hj')) _ (by omega)) (fun j _ h => mayA_len h)]
          rfl
        · rw [if_neg h0, show (x.layout == 0) = false by simpa using h0, cF]
          obtain ⟨o, ho, ho2⟩ := array_one_ok (f := f) hi (x := x) (k := k) (by omega) (fun hk0 hl0 => array_May_ok f t _ _ (by unfold need at hf ⊢; rw [if_neg h0] at hf; rw [if_pos hl0]; omega) (hx.kid (kidA_mem hk0)) _ (by omega))
          have hoff := hB.off
          have hlen := hB.len
          have hrows := hB.rows
          have hrw := hB.rowsEq
          by_cases h1 : x.layout = 1
          · rw [if_pos h1, show (x.layout == 1) = true by simpa using h1, cT, array_dict.f_eq, ho, bS]
            simp only
            generalize hg : (!inner (knd t i) && (x.ends == [] && (decide (x.kids.length = 1) && ((kidA x 0).layout == 0 && mayA f t (i : Int) (kidA x 0))))) = g at *
            have e : (!inner (knd t i) && (x.ends == [] && (decide (x.kids.length = 1) && ((kidA x 0).layout == 0 && (mayA f t (i : Int) (kidA x 0) && dictB x (kidA x 0)))))) = (g && dictB x (kidA x 0)) := by rw [← hg]; simp [Bool.and_assoc]
            rw [e]
            cases g with
            | false => rfl
            | true =>
              simp only [Bool.and_eq_true, Bool.not_eq_true', decide_eq_true_eq, beq_iff_eq] at hg
              rw [ho2 hg.2.2.1 hg.1 hg.2.1]
              simp only [Bool.not_true, Bool.not_false, cT, bS, Bool.true_and]
              rw [array_dict_l0 hB (by omega) _ (by omega), wi64 (x.offset + x.length) (by omega), wi64 _ (by omega)]
              unfold dictB
              have e1 : ((kidA x 0).valid != []) = !((kidA x 0).valid == []) := rfl
              rw [e1, Bool.not_not]
              have e2 : decide (((x.data).length : Int) < 4 * (x.offset + x.length)) = !decide (4 * rowsN x ≤ x.data.length) := by
                by_cases h : 4 * rowsN x ≤ x.data.length
                · rw [dT h, dF (by omega)]; rfl
                · rw [dF h, dT (by omega)]; rfl
              rw [e2, okE, Bool.not_not, okF, bS]
          · rw [if_neg h1, show (x.layout == 1) = false by simpa using h1, cF]
            by_cases h2 : x.layout = 2
            · rw [if_pos h2, show (x.layout == 2) = true by simpa using h2, cT, array_run.f_eq, ho, bS]
              simp only
              generalize hg : (!inner (knd t i) && (x.ends == [] && (decide (x.kids.length = 1) && ((kidA x 0).layout == 0 && mayA f t (i : Int) (kidA x 0))))) = g at *
              have e : (!inner (knd t i) && (x.ends == [] && (decide (x.kids.length = 1) && ((kidA x 0).layout == 0 && (mayA f t (i : Int) (kidA x 0) && runB x (kidA x 0)))))) = (g && runB x (kidA x 0)) := by rw [← hg]; simp [Bool.and_assoc]
              rw [e]
              cases g with
              | false => rfl
              | true =>
                simp only [Bool.and_eq_true, Bool.not_eq_true', decide_eq_true_eq, beq_iff_eq] at hg
                rw [ho2 hg.2.2.1 hg.1 hg.2.1]
                simp only [Bool.not_true, Bool.not_false, cT, bS, Bool.true_and]
                have hkl := mayA_len hg.2.2.2.2
                have em : (kidA x 0).length = (((kidA x 0).length.toNat : Nat) : Int) := by omega
                have hl0 := array_run_l0 (x := x) (m := (kidA x 0).length.toNat) (by omega) ⟨hrows, by omega⟩ hB.data (k := k + 1) (by omega) (k + 1) (by omega)
                rw [← em] at hl0
                rw [hl0, wi64 _ (by omega)]
                unfold runB
                have e1 : (x.valid != []) = !(x.valid == []) := rfl
                have e2 : (((x.data).length : Int) != 4 * (kidA x 0).length) = !(((x.data).length : Int) == 4 * (kidA x 0).length) := rfl
                rw [e1, Bool.not_not, e2, okE, Bool.not_not, okF, bS]
            · rw [if_neg h2, show (x.layout == 2) = false by simpa using h2, cF]
              simp
/-- The program and the document say the same of every array. -/
theorem May_ok {t : List Nod} {a : Int} {x : Arr} (hx : RoomyA x) {k : Nat} (hk : 1000 ≤ k) : array_May.f idb k t a x = some (arrB t a x) := by
  cases hn : nodeB t a with
  | true =>
    have h := need_lt (x := x) hn
    exact array_May_ok 20 t a x (by omega) hx k (by omega)
  | false =>
    obtain ⟨k, rfl⟩ : ∃ m, k = m + 1 := ⟨k - 1, by omega⟩
    rw [array_May.f_eq, types_Node_ok (by omega), bS, hn, arrB_eq, hn]; rfl
end Go.Proofs.YtppmpfddcohkjaaP
