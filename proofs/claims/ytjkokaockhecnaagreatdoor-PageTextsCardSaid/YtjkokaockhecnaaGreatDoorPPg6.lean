/- The program's reading of values' texts: what its taker does to any text; no condition but the sizes that a machine has. The program's parts of a text, and what fits a leaf: the program's answer and the document's are one; no condition but the sizes that a machine has. Which columns may be a leaf's; what a page's parts are, and what the program puts: no condition but the sizes that a machine has. The document's test of a column, sums, values' bytes, and what the program puts into a page; no condition but the sizes that a machine has. What the program puts into a page: its answer in plain lists; no condition but the sizes that a machine has. Unlike columns have unlike pages; columns that are the same; no condition but the sizes that a machine has. -/
import Derived.Test.YtjkokaockhecnaaGreatDoorPPh0
import Derived.Lib.AtoiAllCases
import Derived.Test.YtjkokaockhecnaaGreatDoorPPgA
namespace Go.Proofs.YtjkokaockhecnaaGreatDoorP
open Go Go.Proofs.YtjkokaockhecnaaGreatDoorA

/-! ### The library -/
theorem index_hit (c : UInt8) : ∀ (p q : List UInt8), c ∉ p → Lib.index (p ++ c :: q) [c] = (p.length : Int)
  | [], q, _ => by simp [Lib.index, List.isPrefixOf]
  | b :: p, q, h => by
    have hb : ¬ c = b := fun e => h (by rw [e]; exact List.mem_cons_self)
    have ih := index_hit c p q fun hm => h (List.mem_cons_of_mem _ hm)
    rw [List.cons_append, Lib.index, ih]
    have e1 : List.isPrefixOf [c] (b :: (p ++ c :: q)) = false := by simp [List.isPrefixOf, hb]
    rw [e1]
    have e2 : (((p.length : Nat) : Int) == -1) = false := by rw [beq_eq_false_iff_ne]; omega
    rw [e2]
    simp
theorem cut_hit {c : UInt8} {p q : List UInt8} (h : c ∉ p) : Lib.cut (p ++ c :: q) [c] = (p, q, true) := by
  unfold Lib.cut
  rw [index_hit c p q h, if_pos (by omega), Int.toNat_natCast]
  simp
theorem Cut_ok {k : Nat} (hk : 1 ≤ k) {s sep : List UInt8} (hs : s.length ≤ 4000000000) : strings_Cut.f idb k s sep = some (Lib.cut s sep) := by
  obtain ⟨k, rfl⟩ : ∃ q, k = q + 1 := ⟨k - 1, by omega⟩
  rw [strings_Cut.f_eq]
  unfold extCut
  rw [dT (by omega)]; rfl
theorem vItoa_ok {k : Nat} (hk : 1 ≤ k) {x : Int} (h : In64 x) : strconv_Itoa.f idb k x = some (digT x) := by
  obtain ⟨k, rfl⟩ : ∃ q, k = q + 1 := ⟨k - 1, by omega⟩
  obtain ⟨h0, h1⟩ := h
  rw [strconv_Itoa.f_eq]
  unfold extItoa
  rw [dT h0, dT h1, itoa_eq h0 h1]; rfl
theorem parse_dbytes : ∀ (ds : List Nat) (acc : Nat), (∀ d ∈ ds, d < 10) → ds.foldl (fun a d => 10 * a + d) acc < 18446744073709551616 → Lib.parseUint10 acc (dbytes ds) = .ok (ds.foldl (fun a d => 10 * a + d) acc)
  | [], acc, _, _ => rfl
  | d :: ds, acc, h, hv => by
    have hd := h d List.mem_cons_self
    have mono : ∀ (ds : List Nat) (a : Nat), a ≤ ds.foldl (fun a d => 10 * a + d) a := by
      intro ds
      induction ds with
      | nil => intro a; exact Nat.le_refl _
      | cons d ds ih => intro a; exact Nat.le_trans (by omega) (ih (10 * a + d))
    have hm := mono ds (10 * acc + d)
    rw [List.foldl_cons] at hv ⊢
    have e : dbytes (d :: ds) = UInt8.ofNat (48 + d) :: dbytes ds := rfl
    have ec : (UInt8.ofNat (48 + d)).toNat = 48 + d := by rw [UInt8.toNat_ofNat']; omega
    rw [e, Lib.parseUint10, ec, if_pos (by omega), if_neg (by omega), if_neg (by omega), show acc * 10 + (48 + d - 48) = 10 * acc + d by omega]
    exact parse_dbytes ds _ (fun x hx => h x (List.mem_cons_of_mem _ hx)) hv
theorem atoi_dig {x : Int} (h : In64 x) : Lib.atoiAll (digT x) = .ok x := by
  obtain ⟨h0, h1⟩ := h
  have p19 : (10 : Nat) ^ 19 = 10000000000000000000 := by decide
  have key : ∀ n : Nat, n < 10 ^ 19 → Lib.parseMag (dec n) = .ok n ∧ ∃ b r, dec n = b :: r ∧ 48 ≤ b.toNat ∧ b.toNat ≤ 57 := by
    intro n hn
    obtain ⟨v1, v2, v3⟩ := digs_val 19 n hn (by omega)
    rw [dec_dbytes hn]
    have hp := parse_dbytes (digs 19 n) 0 v2 (by unfold horner at v1; rw [v1]; omega)
    unfold horner at v1
    rw [v1] at hp
    cases hq : digs 19 n with
    | nil => exact absurd hq v3
    | cons d ds =>
      rw [hq] at hp v2
      have hd := v2 d List.mem_cons_self
      have e : dbytes (d :: ds) = UInt8.ofNat (48 + d) :: dbytes ds := rfl
      have ec : (UInt8.ofNat (48 + d)).toNat = 48 + d := by rw [UInt8.toNat_ofNat']; omega
      refine ⟨?_, _, _, e, by omega, by omega⟩
      unfold Lib.parseMag
      rw [if_neg (by rw [e]; simp)]
      exact hp
  unfold digT
  by_cases hx : x < 0
  · rw [if_pos hx]
    obtain ⟨k1, _⟩ := key x.natAbs (by omega)
    unfold Lib.atoiAll
    simp only [show (45 : UInt8).toNat = 45 from rfl, or_true, if_true, k1]
    rw [if_neg (by simp), if_neg (by simp; omega)]
    congr 1; omega
  · rw [if_neg hx]
    obtain ⟨k1, b, r, e, c1, c2⟩ := key x.toNat (by omega)
    rw [e] at k1 ⊢
    unfold Lib.atoiAll
    simp only
    rw [if_neg (show ¬ (b.toNat = 43 ∨ b.toNat = 45) by omega), k1]
    simp only
    rw [if_neg (by omega), if_neg (by omega), if_neg (by omega)]
    congr 1; omega
theorem Atoi_dig {k : Nat} (hk : 1 ≤ k) {x : Int} (h : In64 x) : strconv_Atoi.f idb k (digT x) = some (x, false) := by
  obtain ⟨k, rfl⟩ : ∃ q, k = q + 1 := ⟨k - 1, by omega⟩
  have hl := digT_len x
  rw [strconv_Atoi.f_eq]
  unfold extAtoi
  rw [dT (by omega), atoi_dig h]; rfl

/-! ### The taker's parts -/
theorem number_dig {k : Nat} (hk : 2 ≤ k) {x : Int} (hx : In64 x) {c : UInt8} (hc : c = 58 ∨ c = 59) {r : List UInt8} (hr : (digT x ++ c :: r).length ≤ 4000000000) :
    value_taker_number.f idb k (digT x ++ c :: r) false [c] = some ((x, digT x), (r, false)) := by
  obtain ⟨k, rfl⟩ : ∃ q, k = q + 1 := ⟨k - 1, by omega⟩
  have hn : c ∉ digT x := by
    intro hm
    obtain ⟨_, h2⟩ := digT_chars hx.1 hx.2
    have := h2 c hm
    rcases hc with rfl | rfl
    · exact this.1 rfl
    · exact this.2 rfl
  rw [value_taker_number.f_eq, Cut_ok (by omega) hr, bS, cut_hit hn]
  simp only [Atoi_dig (show 1 ≤ k by omega) hx, bS, Bool.not_true, Bool.not_false, cT, vItoa_ok (show 1 ≤ k by omega) hx, bne_self_eq_false, cF]
theorem vbytes_ok {k : Nat} (hk : 1 ≤ k) (r : List UInt8) (bad : Bool) (n : Int) : value_taker_bytes.f idb k r bad n =
    some (if bad = false ∧ 0 ≤ n ∧ n ≤ (r.length : Int) then (r.take n.toNat, (r.drop n.toNat, false)) else ([], (r, true))) := by
  obtain ⟨k, rfl⟩ : ∃ q, k = q + 1 := ⟨k - 1, by omega⟩
  rw [value_taker_bytes.f_eq]
  cases bad with
  | true => simp
  | false =>
    rw [Bool.not_false, cT]
    by_cases h0 : n < 0
    · rw [dT h0, Bool.not_true, cF, if_neg (by omega)]
    · rw [dF h0, Bool.not_false, cT]
      by_cases h1 : n > (r.length : Int)
      · rw [dT h1, cT, if_neg (by omega)]
      · rw [dF h1, cF, dT (show (0 : Int) ≤ n by omega), dT (show n ≤ (r.length : Int) by omega), Bool.and_self, cT, cT, if_pos ⟨rfl, by omega, by omega⟩, List.drop_zero, List.take_length]
theorem vbyte_ok {k : Nat} (hk : 1 ≤ k) (r : List UInt8) (bad : Bool) : value_taker_byte.f idb k r bad = some (match r with | [] => (0, ([], true)) | b :: l => ((b.toNat : Int), (l, bad))) := by
  obtain ⟨k, rfl⟩ : ∃ q, k = q + 1 := ⟨k - 1, by omega⟩
  rw [value_taker_byte.f_eq]
  cases r with
  | nil => rfl
  | cons b l =>
    have e : ((b :: l) == ([] : List UInt8)) = false := rfl
    rw [e, cF, show rd (b :: l) 0 = some b from rfl, bS, dT (by omega), dT (by simp only [List.length_cons]; omega), Bool.and_self, cT, List.take_length]
    rfl

/-! ### A value -/
end Go.Proofs.YtjkokaockhecnaaGreatDoorP

namespace Go.Proofs.YtjkokaockhecnaaGreatDoorP
open Go Go.Proofs.YtjkokaockhecnaaGreatDoorA

theorem vParts_leaf {k : Nat} (hk : 70300 ≤ k) {v : List UInt8} (hl : v.length ≤ 65536) {kd : Int} {ps : List (List UInt8)} (h : Shape v kd ps) (h3 : kd < 3) : value_Parts.f idb k v = some (kd, ps, 0) := by
  obtain ⟨k, rfl⟩ : ∃ q, k = q + 1 := ⟨k - 1, by omega⟩
  have key : value_taker_value.f idb k v false 0 = some ((kd, ps), (([] : List UInt8), false)) := by
    obtain ⟨k, rfl⟩ : ∃ q, k = q + 1 := ⟨k - 1, by omega⟩
    rw [value_taker_value.f_eq, dF (by omega), cF, vbyte_ok (by omega), bS]
    cases h with
    | n => rfl
    | i x hx =>
      have e : intT x = 105 :: (digT x ++ 59 :: []) := rfl
      have hlen := digT_len x
      rw [e]
      simp only [show (((105 : UInt8).toNat : Int) == 110) = false from rfl, show (((105 : UInt8).toNat : Int) == 105) = true from rfl, cT, cF]
      rw [number_dig (by omega) hx (.inr rfl) (by rw [List.length_append]; simp only [List.length_cons, List.length_nil]; omega), bS]
    | b b => cases b <;> rfl
    | s l =>
      have e : bytesT l = 115 :: (digT ((l.length : Nat) : Int) ++ 58 :: l) := by rw [digT_nat]; simp [bytesT]
      rw [e] at hl ⊢
      have hx : In64 ((l.length : Nat) : Int) := by
        rw [List.length_cons, List.length_append, List.length_cons] at hl
        unfold In64; omega
      simp only [show (((115 : UInt8).toNat : Int) == 110) = false from rfl, show (((115 : UInt8).toNat : Int) == 105) = false from rfl, show (((115 : UInt8).toNat : Int) == 116) = false from rfl, show (((115 : UInt8).toNat : Int) == 102) = false from rfl, show (((115 : UInt8).toNat : Int) == 115) = true from rfl, cT, cF]
      rw [number_dig (by omega) hx (.inl rfl) (by rw [List.length_cons] at hl; omega), bS, vbytes_ok (by omega), bS]
      simp only
      rw [if_pos ⟨trivial, by omega, by omega⟩, Int.toNat_natCast, List.take_length, List.drop_length]
    | l vs h => omega
    | r vs h => omega
  rw [value_Parts.f_eq, dF (by omega), cF, key, bS]
  rfl

/-! ### What fits a leaf -/
/-- May a text be a leaf's value? -/
def FitL (t : List Nod) (i : Nat) (v : List UInt8) : Prop :=
  v.length ≤ 65536 ∧ ((v = [110] ∧ nul t i = true) ∨ (knd t i = 0 ∧ ∃ x, In64 x ∧ v = intT x) ∨ (knd t i = 1 ∧ ∃ b, v = boolT b) ∨ (knd t i = 2 ∧ ∃ l : List UInt8, l.length ≤ 16 ∧ v = bytesT l))
open Classical in
noncomputable def fitB (t : List Nod) (i : Nat) (v : List UInt8) : Bool := decide (FitL t i v)
theorem fitB_iff {t : List Nod} {i : Nat} {v : List UInt8} : fitB t i v = true ↔ FitL t i v := by unfold fitB; simp
theorem FitL.shape {t : List Nod} {i : Nat} {v : List UInt8} (h : FitL t i v) : ∃ kd ps, Shape v kd ps ∧ kd < 3 ∧ ((kd = -1 ∧ nul t i = true) ∨ (kd = knd t i ∧ 0 ≤ kd ∧ ∀ l ps', kd = 2 → ps = l :: ps' → l.length ≤ 16)) := by
  obtain ⟨_, ⟨rfl, h⟩ | ⟨h, x, hx, rfl⟩ | ⟨h, b, rfl⟩ | ⟨h, l, hl, rfl⟩⟩ := h
  · exact ⟨_, _, .n, by omega, .inl ⟨rfl, h⟩⟩
  · exact ⟨_, _, .i x hx, by omega, .inr ⟨h.symm, by omega, fun _ _ h => by omega⟩⟩
  · exact ⟨_, _, .b b, by omega, .inr ⟨h.symm, by omega, fun _ _ h => by omega⟩⟩
  · refine ⟨_, _, .s l, by omega, .inr ⟨h.symm, by omega, fun l' ps' _ e => ?_⟩⟩
    simp only [List.cons.injEq] at e
    rw [← e.1]; exact hl
end Go.Proofs.YtjkokaockhecnaaGreatDoorP

namespace Go.Proofs.YtjkokaockhecnaaGreatDoorP
open Go Go.Proofs.YtjkokaockhecnaaGreatDoorA

/-! ### Small things -/
theorem word4' {k : Nat} (hk : 12 ≤ k) (x : Int) : num_Word.f idb k x 4 = some (w4 x) := by
  obtain ⟨k, rfl⟩ : ∃ q, k = q + 12 := ⟨k - 12, by omega⟩
  exact word4 k x
theorem word8' {k : Nat} (hk : 12 ≤ k) (x : Int) : num_Word.f idb k x 8 = some (w8 x) := by
  obtain ⟨k, rfl⟩ : ∃ q, k = q + 12 := ⟨k - 12, by omega⟩
  exact word8 k x
theorem word1' {k : Nat} (hk : 12 ≤ k) (x : Int) : num_Word.f idb k x 1 = some (wd1 x) := by
  obtain ⟨k, rfl⟩ : ∃ q, k = q + 12 := ⟨k - 12, by omega⟩
  exact word1 k x

/-- How many of numbers are just one. -/
def cnt (one : Int) (xs : List Int) : Nat := xs.countP fun x => x == one
theorem cnt_le (one : Int) (xs : List Int) : cnt one xs ≤ xs.length := List.countP_le_length
theorem cnt_succ (one : Int) {xs : List Int} {i : Nat} (h : i < xs.length) : cnt one (xs.take (i + 1)) = cnt one (xs.take i) + (if xs[i] == one then 1 else 0) := by
  unfold cnt
  rw [List.take_succ_eq_append_getElem h, List.countP_append, List.countP_cons, List.countP_nil]
  omega
theorem there_ok' {k : Nat} {xs : List Int} (hk : xs.length + 3 ≤ k) (hl : xs.length ≤ 20000000000000) (one : Int) : page_there.f idb k xs one = some ((cnt one xs : Nat) : Int) := by
  obtain ⟨k, rfl⟩ : ∃ q, k = q + 1 := ⟨k - 1, by omega⟩
  rw [page_there.f_eq]
  have := loop_up (F := fun n i => page_there.l0 idb k n one ((cnt one (xs.take i) : Nat) : Int) xs (xs.length : Int) (i : Int)) (N := xs.length) (r := some ((cnt one xs : Nat) : Int)) ?_ ?_ k 0 (by omega) (by omega)
  · simpa [cnt] using this
  · intro n i hi
    have hc := cnt_succ one hi
    have hle : cnt one (xs.take i) ≤ i := Nat.le_trans (cnt_le one _) (by rw [List.length_take]; omega)
    rw [page_there.l0_eq, dT (by omega), cT, rd_get hi, bS, wsucc (i := i) (by omega), hc]
    cases hx : (xs[i] == one) with
    | true => rw [cT, wi64 _ (by omega)]; rfl
    | false => rw [cF]; rfl
  · intro n
    rw [page_there.l0_eq, dF (by omega), cF, List.take_length]

/-! ### Which columns may be -/
noncomputable def vOk (t : List Nod) (a : Int) (v : List UInt8) : Bool := (v != [110]) && fitB t a.toNat v
theorem Leaf_ok {k : Nat} (hk : 32 ≤ k) (t : List Nod) (a : Int) : types_Leaf.f idb k t a = some (nodeB t a && !inner (knd t a.toNat)) := by
  obtain ⟨k, rfl⟩ : ∃ q, k = q + 1 := ⟨k - 1, by omega⟩
  rw [types_Leaf.f_eq, types_Node_ok (by omega), bS]
  cases hn : nodeB t a with
  | false => rfl
  | true =>
    obtain ⟨hm, i, hi, rfl⟩ := nodeB_may hn
    rw [cT, rd_get hi, bS, types_Inner_ok (by omega), bS, knd_get hi, Int.toNat_natCast, Bool.true_and]
end Go.Proofs.YtjkokaockhecnaaGreatDoorP

namespace Go.Proofs.YtjkokaockhecnaaGreatDoorP
open Go Go.Proofs.YtjkokaockhecnaaGreatDoorA

/-! ### Sums -/
def rnd (x : Int) : Int := bitsOp .xor .u32 (Int.fdiv x (2 ^ (min 1 IntKind.u32.bits))) (IntKind.u32.wrap (3988292384 * (bitsOp .and .u32 x 1)))
def rnds : Nat → Int → Int
  | 0, x => x
  | n + 1, x => rnds n (rnd x)
def crcB (x : Int) (b : UInt8) : Int := rnds 8 (bitsOp .xor .u32 x (IntKind.u32.wrap (b.toNat : Int)))
def crcS (s : List UInt8) : Int := IntKind.i64.wrap (bitsOp .xor .u32 (s.foldl crcB 4294967295) 4294967295)
theorem crc_l2 {k m1 : Nat} {s : List UInt8} {len i : Int} : ∀ (d j n : Nat) (x : Int), j + d = 8 → d + 1 ≤ n → crc_Sum.l2 idb k m1 n s x len i (j : Int) = crc_Sum.l0 idb k m1 s (rnds d x) len (IntKind.i64.wrap (i + 1))
  | 0, j, n, x, h, hn => by
    obtain ⟨n, rfl⟩ : ∃ q, n = q + 1 := ⟨n - 1, by omega⟩
    rw [crc_Sum.l2_eq, dF (by omega), cF]; rfl
  | d + 1, j, n, x, h, hn => by
    obtain ⟨n, rfl⟩ : ∃ q, n = q + 1 := ⟨n - 1, by omega⟩
    rw [crc_Sum.l2_eq, dT (by omega), cT, wsucc (by omega)]
    exact crc_l2 d (j + 1) n (rnd x) (by omega) (by omega)
theorem crc_ok {k : Nat} {s : List UInt8} (hk : s.length + 12 ≤ k) (hl : s.length ≤ 1000000000000000) : crc_Sum.f idb k s = some (crcS s) := by
  obtain ⟨k, rfl⟩ : ∃ q, k = q + 1 := ⟨k - 1, by omega⟩
  rw [crc_Sum.f_eq]
  have := loop_up (F := fun n i => crc_Sum.l0 idb k n s ((s.take i).foldl crcB 4294967295) (s.length : Int) (i : Int)) (N := s.length) (r := some (crcS s)) ?_ ?_ k 0 (by omega) (by omega)
  · simpa using this
  · intro n i hi
    rw [crc_Sum.l0_eq, dT (by omega), cT, rd_get hi, bS]
    have := crc_l2 (k := k) (m1 := n) (s := s) (len := (s.length : Int)) (i := (i : Int)) 8 0 k (bitsOp .xor .u32 ((s.take i).foldl crcB 4294967295) (IntKind.u32.wrap (s[i].toNat : Int))) (by omega) (by omega)
    rw [show ((0 : Nat) : Int) = 0 from rfl] at this
    rw [this, wsucc (by omega), List.take_succ_eq_append_getElem hi, List.foldl_append]
    rfl
  · intro n
    rw [crc_Sum.l0_eq, dF (by omega), cF, List.take_length]
    rfl

/-! ### Values' bytes -/
/-- A value and its bytes in a page. -/
inductive PB : List UInt8 → List UInt8 → Prop
  | i (x : Int) (h : In64 x) : PB (intT x) (w8 x)
  | b (b : Bool) : PB (boolT b) (wd1 (if b then 1 else 0))
  | s (l : List UInt8) (h : l.length ≤ 16) : PB (bytesT l) (w4 (l.length : Int) ++ l)
theorem PB.len {v b : List UInt8} (h : PB v b) : b.length ≤ 20 := by
  cases h with
  | i x h => show 8 ≤ 20; omega
  | b b => show 1 ≤ 20; omega
  | s l h => rw [List.length_append, w4_length]; omega
theorem pgBytes_ok {k : Nat} (hk : 70500 ≤ k) {v b : List UInt8} (h : PB v b) (hl : v.length ≤ 65536) : page_bytes.f idb k v = some b := by
  obtain ⟨k, rfl⟩ : ∃ q, k = q + 1 := ⟨k - 1, by omega⟩
  rw [page_bytes.f_eq]
  cases h with
  | i x hx =>
    rw [vParts_leaf (by omega) hl (.i x hx) (by omega), bS]
    simp only [show ((0 : Int) == 0) = true from rfl, cT]
    rw [dT (by omega), dT (by simp), Bool.and_self, cT, show ([digT x] : List (List UInt8))[0]? = some (digT x) from rfl, bS, Atoi_dig (by omega) hx, bS, word8' (by omega), bS]
  | b b =>
    rw [vParts_leaf (by omega) hl (.b b) (by omega), bS]
    simp only [show ((1 : Int) == 0) = false from rfl, show ((1 : Int) == 1) = true from rfl, cT, cF]
    rw [dT (by omega), dT (by simp), Bool.and_self, cT, show ([boolT b] : List (List UInt8))[0]? = some (boolT b) from rfl, bS]
    cases b with
    | true =>
      rw [show rd (boolT true) 0 = some 116 from rfl, bS, there_ok' (by simp only [List.length_cons, List.length_nil]; omega) (by simp), bS, word1' (by omega), bS]
      rfl
    | false =>
      rw [show rd (boolT false) 0 = some 102 from rfl, bS, there_ok' (by simp only [List.length_cons, List.length_nil]; omega) (by simp), bS, word1' (by omega), bS]
      rfl
  | s l h16 =>
    rw [vParts_leaf (by omega) hl (.s l) (by omega), bS]
    simp only [show ((2 : Int) == 0) = false from rfl, show ((2 : Int) == 1) = false from rfl, cF]
    rw [dT (by omega), dT (by simp), Bool.and_self, cT, show ([l] : List (List UInt8))[0]? = some l from rfl, bS, word4' (by omega), bS, cT, bS, dT (by rw [w4_length]; omega), cT]
end Go.Proofs.YtjkokaockhecnaaGreatDoorP

namespace Go.Proofs.YtjkokaockhecnaaGreatDoorP
open Go Go.Proofs.YtjkokaockhecnaaGreatDoorA

noncomputable def pgB (v : List UInt8) : List UInt8 := (page_bytes.f idb 80000 v).getD []
theorem PB.short {v b : List UInt8} (h : PB v b) : v.length ≤ 100 := by
  cases h with
  | i x h => have := digT_len x; unfold intT; simp only [List.length_append, List.length_cons, List.length_nil]; omega
  | b b => cases b <;> decide
  | s l h => have := dec_len l.length; unfold bytesT; simp only [List.length_append, List.length_cons, List.length_nil]; omega
theorem PB.eq {v b : List UInt8} (h : PB v b) : pgB v = b := by
  unfold pgB
  rw [pgBytes_ok (by omega) h (by have := h.short; omega)]; rfl
end Go.Proofs.YtjkokaockhecnaaGreatDoorP

namespace Go.Proofs.YtjkokaockhecnaaGreatDoorP
open Go Go.Proofs.YtjkokaockhecnaaGreatDoorA

theorem awake22' {k : Nat} (hk : 400 ≤ k) : quiverlaw22_awake.f idb k = some true := by
  obtain ⟨k, rfl⟩ : ∃ q, k = q + 400 := ⟨k - 400, by omega⟩
  exact awake22 k

/-! ### The same columns -/
open Classical in
/-! ### Unlike columns -/
theorem PB.kind {t : List Nod} {i : Nat} {v : List UInt8} (h : vOk t (i : Int) v = true) : (knd t i = 0 ∧ ∃ x, In64 x ∧ v = intT x ∧ pgB v = w8 x) ∨ (knd t i = 1 ∧ ∃ b, v = boolT b ∧ pgB v = wd1 (if b then 1 else 0)) ∨ (knd t i = 2 ∧ ∃ l : List UInt8, l.length ≤ 16 ∧ v = bytesT l ∧ pgB v = w4 (l.length : Int) ++ l) := by
  unfold vOk at h
  rw [Bool.and_eq_true, bne_iff_ne, Int.toNat_natCast] at h
  obtain ⟨_, ⟨e, _⟩ | ⟨e, x, hx, rfl⟩ | ⟨e, b, rfl⟩ | ⟨e, l, hl, rfl⟩⟩ := fitB_iff.1 h.2
  · exact absurd e h.1
  · exact .inl ⟨e, x, hx, rfl, (PB.i x hx).eq⟩
  · exact .inr (.inl ⟨e, b, rfl, (PB.b b).eq⟩)
  · exact .inr (.inr ⟨e, l, hl, rfl, (PB.s l hl).eq⟩)
end Go.Proofs.YtjkokaockhecnaaGreatDoorP
