/- Arrays: whether one may be, by the program and by the document; copies, comparisons; no condition but the sizes that a machine has. -/
import Derived.Test.YtppmpfddcohkjaaPLoop
import Derived.Test.YtppmpfddcohkjaaRoom
namespace Go.Proofs.YtppmpfddcohkjaaP
open Go Go.Proofs.YtppmpfddcohkjaaA

/-! ### Arrays as trees -/
theorem Arr.eta (a : Arr) : Arr.mk a.layout a.offset a.length a.valid a.ends a.data a.kids = a := by cases a; rfl
/-- So deep, and so many kids at most, is an array. -/
def fits : Nat → Arr → Prop
  | 0, _ => False
  | d + 1, a => a.kids.length ≤ d ∧ ∀ k ∈ a.kids, fits d k
theorem fits_succ : ∀ {d : Nat} {a : Arr}, fits d a → fits (d + 1) a
  | 0, _, h => absurd h (by simp [fits])
  | d + 1, a, h => by
    obtain ⟨h1, h2⟩ := h
    exact ⟨by omega, fun k hk => fits_succ (h2 k hk)⟩
theorem fits_mono {a : Arr} : ∀ {d e : Nat}, d ≤ e → fits d a → fits e a
  | d, 0, h, hf => by
    have : d = 0 := by omega
    subst this; exact hf
  | d, e + 1, h, hf => by
    by_cases hd : d = e + 1
    · subst hd; exact hf
    · exact fits_succ (fits_mono (by omega) hf)
theorem fits_ex (a : Arr) : ∃ d, fits d a := by
  refine Arr.rec (motive_1 := fun a => ∃ d, fits d a) (motive_2 := fun l => ∃ d, l.length ≤ d ∧ ∀ k ∈ l, fits d k) ?_ ?_ ?_ a
  · intro l o n v e da ks ⟨d, h1, h2⟩
    exact ⟨d + 1, h1, h2⟩
  · exact ⟨0, Nat.le_refl _, fun k hk => by simp at hk⟩
  · intro a l ⟨d, hd⟩ ⟨e, h1, h2⟩
    refine ⟨d + e + 1, by simp; omega, fun k hk => ?_⟩
    rcases List.mem_cons.mp hk with rfl | hk
    · exact fits_mono (by omega) hd
    · exact fits_mono (by omega) (h2 k hk)
theorem fits_kid {d : Nat} {a k : Arr} (h : fits (d + 1) a) (hk : k ∈ a.kids) : fits d k := h.2 k hk

theorem _root_.Go.Proofs.YtppmpfddcohkjaaA.RoomyA.kid {a k : Arr} (h : RoomyA a) (hk : k ∈ a.kids) : RoomyA k := fun d => (h (d + 1)).2.2.2.2.2.2 k hk
theorem _root_.Go.Proofs.YtppmpfddcohkjaaA.RoomyA.kids {a : Arr} (h : RoomyA a) : a.kids.length * 96 ≤ 140737488351232 := (h 1).2.2.2.2.2.1

/-! ### Copies, comparisons -/
theorem CopyArray_ok : ∀ (d : Nat) (a : Arr), fits d a → RoomyA a → ∀ k, d + 2 ≤ k → quiverlaw0_CopyArray.f idb k a = some a
  | 0, a, h, _, _, _ => absurd h (by simp [fits])
  | d + 1, a, h, hr, k, hk => by
    obtain ⟨k, rfl⟩ : ∃ m, k = m + 1 := ⟨k - 1, by omega⟩
    rw [quiverlaw0_CopyArray.f_eq]
    have hkl := hr.kids
    have key : ∀ (j i : Nat), i + j = a.kids.length → ∀ n, j + 1 ≤ n →
        quiverlaw0_CopyArray.l0 idb k n (i : Int) a.layout a.offset a.length a.valid a.ends a.data a.kids (a.kids.take i) = some a := by
      intro j
      induction j with
      | zero =>
        intro i hij n hn
        obtain ⟨n, rfl⟩ : ∃ m, n = m + 1 := ⟨n - 1, by omega⟩
        have h1 : ¬ ((i : Int) < (a.kids.length : Int)) := by omega
        rw [quiverlaw0_CopyArray.l0_eq, decide_eq_false h1, cF, List.take_of_length_le (by omega), Arr.eta]
      | succ j ih =>
        intro i hij n hn
        obtain ⟨n, rfl⟩ : ∃ m, n = m + 1 := ⟨n - 1, by omega⟩
        have hlt : i < a.kids.length := by omega
        have h1 : ((i : Int) < (a.kids.length : Int)) := by omega
        have hc := CopyArray_ok d a.kids[i] (fits_kid h (List.getElem_mem hlt)) (hr.kid (List.getElem_mem hlt)) k (by omega)
        have h2 : ((a.kids.take i).length + [a.kids[i]].length) * 96 ≤ 140737488355328 := by simp; omega
        have := ih (i + 1) (by omega) n (by omega)
        rw [List.take_succ_eq_append_getElem hlt] at this
        rw [quiverlaw0_CopyArray.l0_eq, decide_eq_true h1, cT, rd_get hlt, bS, hc, bS, Arr.eta, decide_eq_true h2, cT, wsucc (by omega)]
        exact this
    exact key a.kids.length 0 (by omega) k (by have := h.1; omega)
theorem SameArray_ok : ∀ (d : Nat) (a : Arr), fits d a → RoomyA a → ∀ k, d + 2 ≤ k → quiverlaw0_SameArray.f idb k a a = some true
  | 0, a, h, _, _, _ => absurd h (by simp [fits])
  | d + 1, a, h, hr, k, hk => by
    obtain ⟨k, rfl⟩ : ∃ m, k = m + 1 := ⟨k - 1, by omega⟩
    have hkl := hr.kids
    have key : ∀ (j i : Nat), i + j = a.kids.length → ∀ n, j + 1 ≤ n →
        quiverlaw0_SameArray.l0 idb k n (i : Int) a.layout a.offset a.length a.valid a.ends a.data a.kids a.layout a.offset a.length a.valid a.ends a.data a.kids = some true := by
      intro j
      induction j with
      | zero =>
        intro i hij n hn
        obtain ⟨n, rfl⟩ : ∃ m, n = m + 1 := ⟨n - 1, by omega⟩
        have h1 : ¬ ((i : Int) < (a.kids.length : Int)) := by omega
        rw [quiverlaw0_SameArray.l0_eq, decide_eq_false h1, cF]
      | succ j ih =>
        intro i hij n hn
        obtain ⟨n, rfl⟩ : ∃ m, n = m + 1 := ⟨n - 1, by omega⟩
        have hlt : i < a.kids.length := by omega
        have h1 : ((i : Int) < (a.kids.length : Int)) := by omega
        have hc := SameArray_ok d a.kids[i] (fits_kid h (List.getElem_mem hlt)) (hr.kid (List.getElem_mem hlt)) k (by omega)
        rw [quiverlaw0_SameArray.l0_eq, decide_eq_true h1, cT, rd_get hlt, bS, bS, hc, bS, Bool.not_true, cF, wsucc (by omega)]
        exact ih (i + 1) (by omega) n (by omega)
    rw [quiverlaw0_SameArray.f_eq]
    simp only [bne_self_eq_false, Bool.not_false, cT, cF]
    exact key a.kids.length 0 (by omega) k (by have := h.1; omega)

/-! ### Bits, numbers in a row -/
def bitB (n : Int) : Int := (n + 7) / 8
theorem bitB_eq {n : Int} (h0 : 0 ≤ n) (h1 : n ≤ 1000000) : IntKind.i64.wrap (Int.tdiv (IntKind.i64.wrap (n + 7)) 8) = bitB n := by
  unfold bitB
  rw [wi64 (n + 7) (by omega), Int.tdiv_eq_ediv_of_nonneg (by omega), wi64 _ (by omega)]
theorem BitBytes_ok {k : Nat} (hk : 1 ≤ k) {n : Int} (h0 : 0 ≤ n) (h1 : n ≤ 1000000) : quiverref1_BitBytes.f idb k n = some (bitB n) := by
  obtain ⟨k, rfl⟩ : ∃ m, k = m + 1 := ⟨k - 1, by omega⟩
  rw [quiverref1_BitBytes.f_eq, bitB_eq h0 h1]
theorem bits_Bytes_ok {k : Nat} (hk : 1 ≤ k) {n : Int} (h0 : 0 ≤ n) (h1 : n ≤ 1000000) : bits_Bytes.f idb k n = some (bitB n) := by
  obtain ⟨k, rfl⟩ : ∃ m, k = m + 1 := ⟨k - 1, by omega⟩
  rw [bits_Bytes.f_eq, bitB_eq h0 h1]
def onB (s : List UInt8) (i : Nat) : Bool :=
  match s[i / 8]? with
  | some b => (bitsOp .and .u8 (Int.fdiv (b.toNat : Int) (2 ^ (min (i % 8) IntKind.u8.bits))) 1) == 1
  | none => false
theorem bit_eq {s : List UInt8} {i : Nat} (h : i / 8 < s.length) (hi : i ≤ 1000000) :
    ((rd s (IntKind.i64.wrap (Int.tdiv (i : Int) 8))).bind fun b_1 =>
     bif decide (Int.tmod (i : Int) 8 < 0) then none else
      some ((bitsOp .and .u8 (Int.fdiv (b_1.toNat : Int) (2 ^ (min (Int.tmod (i : Int) 8).toNat IntKind.u8.bits))) 1) == 1)) = some (onB s i) := by
  have e1 : Int.tdiv (i : Int) 8 = ((i / 8 : Nat) : Int) := by rw [Int.tdiv_eq_ediv_of_nonneg (by omega)]; omega
  have e2 : Int.tmod (i : Int) 8 = ((i % 8 : Nat) : Int) := by rw [Int.tmod_eq_emod_of_nonneg (by omega)]; omega
  have h3 : ¬ (((i % 8 : Nat) : Int) < 0) := by omega
  rw [e1, e2, wi64 _ (by omega), rd_get h, bS, decide_eq_false h3, cF, Int.toNat_natCast]
  unfold onB
  rw [List.getElem?_eq_getElem h]
theorem Bit_ok {k : Nat} (hk : 1 ≤ k) {s : List UInt8} {i : Nat} (h : i / 8 < s.length) (hi : i ≤ 1000000) : quiverref1_Bit.f idb k s (i : Int) = some (onB s i) := by
  obtain ⟨k, rfl⟩ : ∃ m, k = m + 1 := ⟨k - 1, by omega⟩
  rw [quiverref1_Bit.f_eq]; exact bit_eq h hi
theorem bits_On_ok {k : Nat} (hk : 1 ≤ k) {s : List UInt8} {i : Nat} (h : i / 8 < s.length) (hi : i ≤ 1000000) : bits_On.f idb k s (i : Int) = some (onB s i) := by
  obtain ⟨k, rfl⟩ : ∃ m, k = m + 1 := ⟨k - 1, by omega⟩
  rw [bits_On.f_eq]; exact bit_eq h hi
def thereB (v : List UInt8) (i : Nat) : Bool := v == [] || onB v i
theorem there_ok {k : Nat} (hk : 2 ≤ k) {a : Arr} {i : Nat} (h : a.valid = [] ∨ i / 8 < a.valid.length) (hi : i ≤ 1000000) : quiverref7_there.f idb k a (i : Int) = some (thereB a.valid i) := by
  obtain ⟨k, rfl⟩ : ∃ m, k = m + 1 := ⟨k - 1, by omega⟩
  rw [quiverref7_there.f_eq]
  unfold thereB
  cases hv : (a.valid == []) with
  | true => rw [Bool.not_true, cF, Bool.true_or]
  | false =>
    rcases h with h | h
    · rw [h] at hv; cases hv
    · rw [Bool.not_false, cT, Bit_ok (by omega) h hi, bS, Bool.false_or]
theorem array_There_ok {k : Nat} (hk : 2 ≤ k) {a : Arr} {i : Nat} (h : a.valid = [] ∨ i / 8 < a.valid.length) (hi : i ≤ 1000000) : array_There.f idb k a (i : Int) = some (thereB a.valid i) := by
  obtain ⟨k, rfl⟩ : ∃ m, k = m + 1 := ⟨k - 1, by omega⟩
  rw [array_There.f_eq]
  unfold thereB
  cases hv : (a.valid == []) with
  | true => rw [Bool.not_true, cF, Bool.true_or]
  | false =>
    rcases h with h | h
    · rw [h] at hv; cases hv
    · rw [Bool.not_false, cT, bits_On_ok (by omega) h hi, bS, Bool.false_or]
/-- The number at a place in a row of numbers. -/
def numA (s : List UInt8) (i : Nat) : Int × Int := get s (4 * (i : Int)) 4
theorem numA_good {s : List UInt8} {i : Nat} (h : (numA s i).2 = 0) : 0 ≤ (numA s i).1 ∧ (numA s i).1 ≤ 2147483647 := by
  unfold numA get at h ⊢
  split at h
  · rename_i h1
    rw [if_pos h1]
    split at h
    · cases h
    · rename_i h2
      rw [if_neg h2]
      have : may (numOf (List.drop (4 * (i : Int)).toNat (List.take (4 * (i : Int) + 4).toNat s))) = true := by
        cases hm : may (numOf (List.drop (4 * (i : Int)).toNat (List.take (4 * (i : Int) + 4).toNat s))) with
        | true => rfl
        | false => exact absurd ⟨rfl, hm⟩ h2
      exact may_iff.1 this
  · cases h
theorem ref_GetNum4 {k : Nat} (hk : 13 ≤ k) {s : List UInt8} (hs : s.length ≤ 4096) {i : Nat} (hi : i ≤ 1000000) : quiverref1_GetNum.f idb k s (IntKind.i64.wrap (4 * (i : Int))) 4 = some (numA s i) := by
  rw [wi64 _ (by omega), ref_Get_ok hk s (by omega) _ _ (by omega)]; rfl
theorem array_Number_ok {k : Nat} (hk : 14 ≤ k) {s : List UInt8} (hs : s.length ≤ 4096) {i : Nat} (hi : i ≤ 1000000) : array_Number.f idb k s (i : Int) = some ((numA s i).1, (numA s i).2 == 0) := by
  obtain ⟨k, rfl⟩ : ∃ m, k = m + 1 := ⟨k - 1, by omega⟩
  rw [array_Number.f_eq, wi64 _ (by omega), num_Get_ok (by omega) s (by omega) _ _ (by omega), bS]; rfl

end Go.Proofs.YtppmpfddcohkjaaP
