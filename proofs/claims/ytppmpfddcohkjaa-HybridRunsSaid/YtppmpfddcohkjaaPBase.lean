/- What the functions below the laws answer, in plain lists and numbers; no condition but the sizes that a machine has. -/
import Derived.Test.YtppmpfddcohkjaaEqs0
import Derived.Test.YtppmpfddcohkjaaEqs1
import Derived.Laws.BitsLemmas
import Derived.KernelRfl
namespace Go.Proofs.YtppmpfddcohkjaaP
open Go Go.Proofs.YtppmpfddcohkjaaA

theorem wi64 (n : Int) (h : -9223372036854775808 ≤ n ∧ n ≤ 9223372036854775807) : IntKind.i64.wrap n = n := by rw [IntKind.wrap_i64]; omega
theorem wu8 (n : Int) : IntKind.u8.wrap n = n % 256 := IntKind.wrap_u8 n
theorem or_shift (x y : Nat) (m : Nat) (h : x < 2 ^ m) : x ||| (y * 2 ^ m) = x + y * 2 ^ m := by
  have := Nat.two_pow_add_eq_or_of_lt (i := m) (b := x) h y
  rw [Nat.mul_comm y, Nat.or_comm, ← this, Nat.add_comm]
theorem toNat_ofInt (n : Nat) (x : Int) : (BitVec.ofInt n x).toNat = (x % (2 ^ n : Int)).toNat := by
  rw [BitVec.toNat_ofInt]; simp
theorem bitsOp_and (k : IntKind) (x y : Int) : bitsOp .and k x y = k.wrap ((((x % (2 ^ k.bits : Int)).toNat &&& (y % (2 ^ k.bits : Int)).toNat : Nat)) : Int) := by
  unfold bitsOp
  simp only [BitVec.toNat_and, toNat_ofInt]
theorem bitsOp_or (k : IntKind) (x y : Int) : bitsOp .or k x y = k.wrap ((((x % (2 ^ k.bits : Int)).toNat ||| (y % (2 ^ k.bits : Int)).toNat : Nat)) : Int) := by
  unfold bitsOp
  simp only [BitVec.toNat_or, toNat_ofInt]
theorem and_mask (x : Int) (m : Nat) (hm : m ≤ 62) : bitsOp .and .i64 x (2 ^ m - 1) = x % 2 ^ m := by
  rw [bitsOp_and]
  have hp : (0 : Int) < 2 ^ m := Int.pow_pos (by omega)
  have hle : (2 ^ m : Int) ≤ 2 ^ 62 := by exact_mod_cast (Nat.pow_le_pow_right (n := 2) (by omega) hm)
  have e1 : ((2 ^ m - 1 : Int) % (2 ^ IntKind.i64.bits : Int)) = ((2 ^ m - 1 : Nat) : Int) := by
    have : ((2 ^ m - 1 : Nat) : Int) = 2 ^ m - 1 := by
      have h1 : 1 ≤ 2 ^ m := Nat.one_le_two_pow
      push_cast [h1]; simp
    rw [this, Int.emod_eq_of_lt (by omega)]
    show (2 ^ m - 1 : Int) < 2 ^ 64
    have : (2 ^ 62 : Int) < 2 ^ 64 := by decide
    omega
  rw [e1, Int.toNat_natCast, Nat.and_two_pow_sub_one_eq_mod]
  have hx0 : 0 ≤ x % (2 ^ IntKind.i64.bits : Int) := Int.emod_nonneg _ (by decide)
  have e2 : (((x % (2 ^ IntKind.i64.bits : Int)).toNat % 2 ^ m : Nat) : Int) = x % 2 ^ m := by
    rw [Int.natCast_emod, Int.toNat_of_nonneg hx0]
    push_cast
    have hd : (2 ^ m : Int) ∣ (2 ^ IntKind.i64.bits : Int) := by
      refine ⟨2 ^ (64 - m), ?_⟩
      rw [← Int.pow_add]
      show (2 : Int) ^ 64 = _
      congr 1; omega
    rw [Int.emod_emod_of_dvd _ hd]
  rw [e2]
  have h1 : 0 ≤ x % 2 ^ m := Int.emod_nonneg _ (by omega)
  have h2 : x % 2 ^ m < 2 ^ m := Int.emod_lt_of_pos _ hp
  have h3 : (2 ^ 62 : Int) ≤ 9223372036854775807 := by decide
  exact wi64 _ ⟨by omega, by omega⟩
def may (x : Int) : Bool := decide (0 ≤ x) && decide (x ≤ 2147483647)
theorem pad_May_ok {k : Nat} (hk : 1 ≤ k) (x : Int) : pad_May.f idb k x = some (may x) := by
  obtain ⟨k, rfl⟩ : ∃ m, k = m + 1 := ⟨k - 1, by omega⟩
  rw [pad_May.f_eq]
  unfold may
  by_cases h : 0 ≤ x
  · have : x ≥ 0 := h
    simp [h]
  · have : ¬ x ≥ 0 := h
    simp [h]
def val : List UInt8 → Nat
  | [] => 0
  | b :: l => b.toNat + 256 * val l
theorem rd_get {α : Type} {l : List α} {i : Nat} (h : i < l.length) : rd l (i : Int) = some l[i] := by
  unfold rd
  have : decide ((0 : Int) ≤ (i : Int)) = true := by simp
  rw [this]
  simp only [cond, Int.toNat_natCast]
  exact List.getElem?_eq_getElem h
def pvL : Nat → Int → List Int
  | 0, x => [x]
  | f + 1, x => if 128 ≤ x then (x % 128 + 128) :: pvL f (x / 128) else [x]
def putVar (x : Int) : List UInt8 × Int := if may x = true then (strOfBytes (pvL 4 x), 0) else ([], 300)
theorem or128 : ∀ n : Nat, n < 256 → n ||| 128 = n % 128 + 128 := by decide +kernel
theorem or_u8 (x : Int) (hx : 0 ≤ x) : bitsOp .or .u8 (IntKind.u8.wrap x) 128 = x % 128 + 128 := by
  rw [bitsOp_or, wu8 x]
  have e1 : (x % 256) % (2 ^ IntKind.u8.bits : Int) = x % 256 := Int.emod_emod_of_dvd _ ⟨1, rfl⟩
  have e2 : ((128 : Int) % (2 ^ IntKind.u8.bits : Int)).toNat = 128 := rfl
  rw [e1, e2, or128 _ (by omega), wu8]
  omega
theorem fdiv128 (x : Int) : Int.fdiv x (2 ^ (min 7 IntKind.i64.bits)) = x / 128 := by
  show Int.fdiv x (2 ^ 7) = x / 128
  rw [Int.fdiv_eq_ediv_of_nonneg _ (by decide)]
  rfl
theorem pvL_length : ∀ (f : Nat) (x : Int), 1 ≤ (pvL f x).length ∧ (pvL f x).length ≤ f + 1
  | 0, x => by simp [pvL]
  | f + 1, x => by
    unfold pvL
    split
    · have := pvL_length f (x / 128); simp; omega
    · simp
theorem num_PutVar_l0 : ∀ (f : Nat) (x : Int) (out : List Int) (k n : Nat), 0 ≤ x → x < 128 ^ (f + 1) → f + 1 ≤ n → out.length + f + 1 ≤ 140737488355328 → num_PutVar.l0 idb k n x out = some (strOfBytes (out ++ pvL f x), 0)
  | 0, x, out, k, n, hx, hx2, hn, hl => by
    obtain ⟨n, rfl⟩ : ∃ m, n = m + 1 := ⟨n - 1, by omega⟩
    rw [num_PutVar.l0_eq]
    have h1 : ¬ (x ≥ 128) := by simp at hx2; omega
    have h2 : ∀ y : Int, decide ((out.length + [y].length) * 1 ≤ 140737488355328) = true := fun y => by simp; omega
    have h3 : IntKind.u8.wrap x = x := by rw [wu8]; omega
    simp only [h1, h2, h3, decide_true, decide_false, cond, pvL]
  | f + 1, x, out, k, n, hx, hx2, hn, hl => by
    obtain ⟨n, rfl⟩ : ∃ m, n = m + 1 := ⟨n - 1, by omega⟩
    rw [num_PutVar.l0_eq]
    by_cases h1 : 128 ≤ x
    · have h1' : x ≥ 128 := h1
      have h2 : ∀ y : Int, decide ((out.length + [y].length) * 1 ≤ 140737488355328) = true := fun y => by simp; omega
      simp only [h1', h2, decide_true, cond, fdiv128, or_u8 x hx]
      rw [num_PutVar_l0 f (x / 128) _ k n (by omega) (by rw [Int.pow_succ] at hx2; exact Int.ediv_lt_of_lt_mul (by omega) hx2) (by omega) (by simp; omega)]
      simp [pvL, h1]
    · have h1' : ¬ (x ≥ 128) := h1
      have h2 : ∀ y : Int, decide ((out.length + [y].length) * 1 ≤ 140737488355328) = true := fun y => by simp; omega
      have h3 : IntKind.u8.wrap x = x := by rw [wu8]; omega
      simp only [h1', h2, h3, decide_true, decide_false, cond, pvL, h1, if_false]
theorem may_iff {x : Int} : may x = true ↔ 0 ≤ x ∧ x ≤ 2147483647 := by simp [may]
theorem num_PutVar_ok {k : Nat} (hk : 7 ≤ k) (x : Int) : num_PutVar.f idb k x = some (putVar x) := by
  obtain ⟨k, rfl⟩ : ∃ m, k = m + 1 := ⟨k - 1, by omega⟩
  rw [num_PutVar.f_eq, pad_May_ok (by omega)]
  unfold putVar
  cases hm : may x with
  | false => simp
  | true =>
    obtain ⟨h1, h2⟩ := may_iff.1 hm
    have := num_PutVar_l0 4 x [] k k h1 (by have : (128 : Int) ^ (4 + 1) = 34359738368 := by decide
                                            omega) (by omega) (by simp)
    simp only [Option.bind_some, Bool.not_true, cond, this, List.nil_append, if_true]
theorem fdiv_pos (x y : Int) (h : 0 ≤ y) : Int.fdiv x y = x / y := Int.fdiv_eq_ediv_of_nonneg _ h
theorem strOfBytes_append (l m : List Int) : strOfBytes (l ++ m) = strOfBytes l ++ strOfBytes m := by simp [strOfBytes]
theorem strOfBytes_length (l : List Int) : (strOfBytes l).length = l.length := by simp [strOfBytes]
def pv (x : Int) : List UInt8 := strOfBytes (pvL 4 x)
theorem putVar_may {x : Int} (h : may x = true) : putVar x = (pv x, 0) := by simp [putVar, h, pv]
theorem pv_length (x : Int) : 1 ≤ (pv x).length ∧ (pv x).length ≤ 5 := by unfold pv; rw [strOfBytes_length]; exact pvL_length 4 x
def msk (x : Int) : Int := bitsOp .and .i64 x 2147483647
def enc (l : List Int) : List UInt8 := l.flatMap fun x => pv (msk x)
theorem law0_Num {k : Nat} (hk : 1 ≤ k) (x : Int) : quiverlaw0_Num.f idb k x = some x := by
  obtain ⟨k, rfl⟩ : ∃ m, k = m + 1 := ⟨k - 1, by omega⟩
  rw [quiverlaw0_Num.f_eq]
theorem wsucc {i : Nat} (h : (i : Int) ≤ 4611686018427387904) : IntKind.i64.wrap ((i : Int) + 1) = ((i + 1 : Nat) : Int) := by rw [wi64 _ (by omega)]; push_cast; rfl
theorem cond_pos' {α : Type} {b : Bool} (h : b = true) (x y : α) : (bif b then x else y) = x := by subst h; rfl
theorem cT {α : Type} (x y : α) : (bif true then x else y) = x := cond_pos' rfl x y
theorem cF' {α : Type} {b : Bool} (h : b = false) (x y : α) : (bif b then x else y) = y := by subst h; rfl
theorem cF {α : Type} (x y : α) : (bif false then x else y) = y := cF' rfl x y
theorem bS' {α β : Type} {o : Option α} {a : α} (h : o = some a) (f : α → Option β) : o.bind f = f a := by subst h; rfl
theorem bS {α β : Type} (a : α) (f : α → Option β) : (some a).bind f = f a := bS' rfl f
end Go.Proofs.YtppmpfddcohkjaaP
