/- What the functions below the laws answer, in plain lists and numbers; no condition but the sizes that a machine has. -/
import Derived.Test.YtppmpfddcohkjaaGreatDoorPBase3
import Derived.Laws.BitsLemmas
import Derived.KernelRfl
namespace Go.Proofs.YtppmpfddcohkjaaGreatDoorP
open Go Go.Proofs.YtppmpfddcohkjaaGreatDoorA

theorem splitK_same {α R : Type} (xs : List α) (a : Option R) (b : List α → Option R) {r : R} (h0 : xs = [] → a = some r) (hb : b xs = some r) : splitK xs a b = some r := by
  cases xs with
  | nil =>
    unfold splitK both
    rw [h0 rfl, hb, if_pos rfl]
  | cons x l => exact hb
theorem set_same {α : Type} {l : List α} {i : Nat} {y : α} (h : l[i]? = some y) : l.set i y = l := by
  refine List.ext_getElem? fun k => ?_
  rw [List.getElem?_set]
  by_cases e : i = k
  · subst e
    have hlt := (List.getElem?_eq_some_iff.mp h).1
    rw [if_pos rfl, if_pos hlt, h]
  · rw [if_neg e]
def noArr : Arr := .mk 0 0 0 [] [] [] []
def sliceT (t : List Nod) (a : Int) (x : Arr) (i c : Int) : Arr × Int :=
  if arrB t a x = false then (noArr, 1100) else if 0 ≤ i ∧ 0 ≤ c ∧ i + c ≤ x.length then (part x i c, 0) else (noArr, 1101)
def ints1 : List Nod := [⟨0, -1, true⟩]
def given1 : Arr := .mk 0 0 4 [13] [] [5, 0, 0, 0, 0, 0, 0, 0, 0, 0, 0, 0, 0, 0, 0, 0, 7, 0, 0, 0, 0, 0, 0, 0, 7, 0, 0, 0, 0, 0, 0, 0] []
theorem roomy_flat {x : Arr} (h : x.kids = []) (h1 : -1000 ≤ x.offset ∧ x.offset ≤ 1000) (h2 : -1000 ≤ x.length ∧ x.length ≤ 1000) (h3 : x.valid.length ≤ 1000) (h4 : x.ends.length ≤ 1000) (h5 : x.data.length ≤ 1000) : RoomyA x := by
  intro d
  cases d with
  | zero => trivial
  | succ d => exact ⟨by omega, by omega, by omega, by omega, by omega, by rw [h]; simp, fun k hk => by rw [h] at hk; simp at hk⟩
theorem fits_flat {x : Arr} (h : x.kids = []) : fits 1 x := ⟨by rw [h]; exact Nat.le_refl 0, fun k hk => by rw [h] at hk; simp at hk⟩
theorem part_back (x : Arr) (i c : Int) : Arr.mk (part x i c).layout x.offset x.length (part x i c).valid (part x i c).ends (part x i c).data (part x i c).kids = x := by
  cases x; rfl
theorem fits_part {d : Nat} {x : Arr} (h : fits d x) (i c : Int) : fits d (part x i c) := by
  cases d with
  | zero => exact h.elim
  | succ d => exact h
theorem d1024 (a : Int) : ∃ d : Int, IntKind.i64.wrap (1 + (bitsOp .and .i64 a 1023)) = d ∧ 1 ≤ d ∧ d ≤ 1024 := dist_of a
theorem valA_part {t : List Nod} {a : Int} {x : Arr} (h : arrB t a x = true) (i c : Int) (f row : Nat) : valA (f + 1) t a (part x i c) row = valA (f + 1) t a x row := by
  obtain ⟨hn, _⟩ := arrB_buf h
  obtain ⟨hm, q, hq, rfl⟩ := nodeB_may hn
  have k0 : x.layout ≠ 0 → kidA (part x i c) 0 = kidA x 0 := fun hl => kidA_part (by rw [(arrB_one h hl).1.kids]; omega)
  have kj : x.layout = 0 → ∀ j, j < (kidsL t (q : Int)).length → kidA (part x i c) j = kidA x j := fun hl j hj => kidA_part (by rw [(arrB_plain h hl).kids]; exact hj)
  unfold valA
  have eV : (part x i c).valid = x.valid := rfl
  have eL : (part x i c).layout = x.layout := rfl
  have eD : (part x i c).data = x.data := rfl
  have eE : (part x i c).ends = x.ends := rfl
  rw [eV, eL, eD, eE]
  congr 1
  by_cases h1 : x.layout = 1
  · rw [if_pos h1, if_pos h1, k0 (by omega)]
  · rw [if_neg h1, if_neg h1]
    by_cases h2 : x.layout = 2
    · rw [if_pos h2, if_pos h2, k0 (by omega)]
    · rw [if_neg h2, if_neg h2]
      have h0 : x.layout = 0 := by
        by_cases e : x.layout = 0
        · exact e
        · rcases (arrB_one h e).2 with ⟨e, _⟩ | ⟨e, _⟩
          · exact absurd e h1
          · exact absurd e h2
      rw [Int.toNat_natCast]
      congr 1
      congr 1
      congr 1
      by_cases h3 : knd t q = 3
      · rw [if_pos h3, if_pos h3]
        have hl1 : (kidsL t (q : Int)).length = 1 := by
          have := (((mayT_iff t).1 hm).2.2 q hq).1
          unfold kidsB at this
          rw [h3] at this
          simpa using this
        rw [kj h0 0 (by omega)]
      · rw [if_neg h3, if_neg h3]
        congr 1
        refine List.map_congr_left fun j hj => ?_
        rw [List.mem_range] at hj
        rw [kj h0 j hj]
theorem valsA_length {t : List Nod} {a : Int} {x : Arr} : (valsA t a x).length = x.length.toNat := by unfold valsA; rw [List.length_map, List.length_range]
theorem range_part (n i c : Nat) (h : i + c ≤ n) (f : Nat → List UInt8) : (((List.range n).map f).take (i + c)).drop i = (List.range c).map fun r => f (i + r) := by
  refine List.ext_getElem? fun k => ?_
  rw [List.getElem?_drop, List.getElem?_take]
  by_cases hk : k < c
  · rw [if_pos (by omega), List.getElem?_map, List.getElem?_map, List.getElem?_range (by omega), List.getElem?_range hk]; rfl
  · rw [if_neg (by omega), List.getElem?_eq_none (by simp; omega)]
theorem valsA_part {t : List Nod} {a : Int} {x : Arr} (h : arrB t a x = true) {i c : Nat} (hic : (i : Int) + c ≤ x.length) : valsA t a (part x i c) = ((valsA t a x).take (i + c)).drop i := by
  have hl := arrB_len h
  unfold valsA
  rw [range_part _ i c (by omega)]
  have e1 : (part x (i : Int) (c : Int)).length.toNat = c := by show ((c : Nat) : Int).toNat = c; omega
  have e2 : (part x (i : Int) (c : Int)).offset.toNat = x.offset.toNat + i := by show (x.offset + (i : Int)).toNat = _; omega
  rw [e1, e2]
  refine List.map_congr_left fun r _ => ?_
  rw [valA_part h, Nat.add_assoc]
theorem part_part (x : Arr) (i c j e : Int) : part (part x i c) j e = part x (i + j) e := by
  show Arr.mk _ (x.offset + i + j) _ _ _ _ _ = Arr.mk _ (x.offset + (i + j)) _ _ _ _ _
  rw [Int.add_assoc]; rfl
/-- A number's digits, as numbers. -/
def digs : Nat → Nat → List Nat
  | 0, _ => []
  | f + 1, n => if n < 10 then [n] else digs f (n / 10) ++ [n % 10]
def horner (l : List Nat) : Nat := l.foldl (fun a d => 10 * a + d) 0
theorem horner_snoc (l : List Nat) (d : Nat) : horner (l ++ [d]) = 10 * horner l + d := by unfold horner; rw [List.foldl_append]; rfl
theorem decI_digs : ∀ f n, decI f n = List.map (fun (d : Nat) => (48 : Int) + (d : Int)) (digs f n)
  | 0, _ => rfl
  | f + 1, n => by
    unfold decI digs
    split
    · rfl
    · rw [decI_digs f (n / 10), List.map_append]; rfl
theorem digs_val : ∀ f n, n < 10 ^ f → 0 < f → horner (digs f n) = n ∧ (∀ d ∈ digs f n, d < 10) ∧ digs f n ≠ []
  | 0, _, _, h => by omega
  | f + 1, n, hf, _ => by
    unfold digs
    by_cases h : n < 10
    · rw [if_pos h]
      refine ⟨by simp [horner], fun d hd => ?_, by simp⟩
      rw [List.mem_singleton.1 hd]; exact h
    · rw [if_neg h]
      have f0 : 0 < f := by
        rcases Nat.eq_zero_or_pos f with e | e
        · subst e; omega
        · exact e
      obtain ⟨h1, h2, h3⟩ := digs_val f (n / 10) (by rw [Nat.pow_succ] at hf; omega) f0
      refine ⟨by rw [horner_snoc, h1]; omega, fun d hd => ?_, by simp⟩
      rcases List.mem_append.1 hd with hd | hd
      · exact h2 d hd
      · rw [List.mem_singleton.1 hd]; omega
theorem digs_len : ∀ f n, (digs f n).length ≤ f
  | 0, _ => Nat.le_refl _
  | f + 1, n => by
    unfold digs
    split
    · simp
    · have := digs_len f (n / 10)
      simp; omega
/-- The digits' bytes. -/
def dbytes (l : List Nat) : List UInt8 := l.map fun d => UInt8.ofNat (48 + d)
theorem dec_dbytes {n : Nat} (h : n < 10 ^ 19) : dec n = dbytes (digs 19 n) := by
  unfold dec dbytes strOfBytes
  rw [decI_same 20 19 n (by omega) h (by omega) (by omega), decI_digs, List.map_map]
  refine List.map_congr_left fun d _ => ?_
  simp only [Function.comp_apply]
  congr 1
theorem dbytes_get {l : List Nat} (hd : ∀ d ∈ l, d < 10) {j : Nat} (hj : j < l.length) : ((dbytes l)[j]'(by unfold dbytes; simpa using hj)).toNat = 48 + l[j] := by
  unfold dbytes
  have := hd l[j] (List.getElem_mem hj)
  rw [List.getElem_map, UInt8.toNat_ofNat']
  omega
theorem horner_take (l : List Nat) : ∀ j, j ≤ l.length → horner (l.take j) ≤ horner l := by
  have snoc : ∀ (m l : List Nat), horner l ≤ horner (l ++ m) := by
    intro m
    induction m with
    | nil => intro l; simp
    | cons d m ih =>
      intro l
      have := ih (l ++ [d])
      rw [List.append_assoc, List.singleton_append, horner_snoc] at this
      omega
  intro j _
  have := snoc (l.drop j) (l.take j)
  rw [List.take_append_drop] at this
  exact this
theorem horner_take_succ {l : List Nat} {j : Nat} (h : j < l.length) : horner (l.take (j + 1)) = 10 * horner (l.take j) + l[j] := by
  rw [List.take_succ_eq_append_getElem h, horner_snoc]
/-- Digits ahead of which there is no sign. -/
theorem whole_pos {k : Nat} (hk : 130 ≤ k) {l : List Nat} (hd : ∀ d ∈ l, d < 10) (hn : l ≠ []) (hl : l.length ≤ 19) (hv : horner l ≤ 9223372036854775807) (he : digT ((horner l : Nat) : Int) = dbytes l) :
    quiverref7_whole.f idb k (dbytes l) = some (((horner l : Nat) : Int), true) := by
  obtain ⟨k, rfl⟩ : ∃ m, k = m + 1 := ⟨k - 1, by omega⟩
  have hlen : (dbytes l).length = l.length := by unfold dbytes; simp
  have hpos : 0 < l.length := List.length_pos_iff.2 hn
  rw [quiverref7_whole.f_eq]
  refine loop_up (F := fun n j => quiverref7_whole.l0 idb k n (dbytes l) ((horner (l.take j) : Nat) : Int) (j : Int)) (N := l.length) ?_ ?_ k 0 (by omega) (by omega)
  · intro n j hj
    have hb := rd_get (l := dbytes l) (i := j) (by omega)
    have hb0 := rd_get (l := dbytes l) (i := 0) (by omega)
    have e1 := dbytes_get hd hj
    have e0 := dbytes_get hd hpos
    have hdj := hd l[j] (List.getElem_mem hj)
    have hd0 := hd l[0] (List.getElem_mem hpos)
    have ht := horner_take_succ hj
    have hm := horner_take l (j + 1) (by omega)
    rw [show ((0 : Nat) : Int) = 0 from rfl] at hb0
    rw [quiverref7_whole.l0_eq, dT (by omega), cT, dT (by omega), cT, hb, bS, e1, show ((((48 + l[j] : Nat)) : Int) == 45) = false by rw [beq_eq_false_iff_ne]; omega, cF, bS, e1, dF (by omega), Bool.not_false, cT, bS, e1, dF (by omega), cF, hb0, bS, e0,
      show ((((48 + l[0] : Nat)) : Int) == 45) = false by rw [beq_eq_false_iff_ne]; omega, cF, bS, e1, wu8, wi64 (10 * _) (by omega), show (((48 + l[j] : Nat) : Int) - 48) % 256 = (l[j] : Int) by omega, wi64 (l[j] : Int) (by omega), wi64 _ (by omega), wsucc (by omega), ht]
    congr 1
  · intro n
    rw [quiverref7_whole.l0_eq, dF (by omega), cF, List.take_length, digits_ok (by omega) (by omega) (by omega), bS, he, BEq.rfl]
theorem whole_neg {k : Nat} (hk : 130 ≤ k) {l : List Nat} (hd : ∀ d ∈ l, d < 10) (hl : l.length ≤ 19) (hv : horner l ≤ 9223372036854775808) (he : digT (-((horner l : Nat) : Int)) = 45 :: dbytes l) :
    quiverref7_whole.f idb k (45 :: dbytes l) = some (-((horner l : Nat) : Int), true) := by
  obtain ⟨k, rfl⟩ : ∃ m, k = m + 1 := ⟨k - 1, by omega⟩
  have hlen : (dbytes l).length = l.length := by unfold dbytes; simp
  have hb0 := rd_get (l := 45 :: dbytes l) (i := 0) (by simp)
  rw [show ((0 : Nat) : Int) = 0 from rfl] at hb0
  have b0 : (((45 :: dbytes l)[0]'(by simp)).toNat : Int) = 45 := rfl
  obtain ⟨k, rfl⟩ : ∃ m, k = m + 1 := ⟨k - 1, by omega⟩
  rw [quiverref7_whole.f_eq, quiverref7_whole.l0_eq, dT (by simp only [List.length_cons]; omega), cT, dT (by simp only [List.length_cons]; omega), cT, hb0, bS, b0, BEq.rfl, cT, BEq.rfl, cT, wi64 (0 + 1) (by omega)]
  refine loop_up (F := fun n j => quiverref7_whole.l0 idb (k + 1) n (45 :: dbytes l) (-((horner (l.take j) : Nat) : Int)) ((j : Int) + 1)) (N := l.length) ?_ ?_ k 0 (by omega) (by omega)
  · intro n j hj
    have hb := rd_get (l := 45 :: dbytes l) (i := j + 1) (by simp only [List.length_cons]; omega)
    rw [show ((j + 1 : Nat) : Int) = (j : Int) + 1 by omega] at hb
    have e1 := dbytes_get hd hj
    have hdj := hd l[j] (List.getElem_mem hj)
    have ht := horner_take_succ hj
    have hm := horner_take l (j + 1) (by omega)
    simp only [List.getElem_cons_succ] at hb
    rw [quiverref7_whole.l0_eq, dT (by simp only [List.length_cons]; omega), cT, dT (by simp only [List.length_cons]; omega), cT, hb, bS, e1, show ((((48 + l[j] : Nat)) : Int) == 45) = false by rw [beq_eq_false_iff_ne]; omega, cF, bS, e1, dF (by omega), Bool.not_false, cT, bS, e1, dF (by omega), cF, hb0, bS, b0,
      BEq.rfl, cT, bS, e1, wu8, wi64 (10 * _) (by omega), show (((48 + l[j] : Nat) : Int) - 48) % 256 = (l[j] : Int) by omega, wi64 (l[j] : Int) (by omega), wi64 _ (by omega), wi64 _ (by omega), ht]
    congr 1
    omega
  · intro n
    rw [quiverref7_whole.l0_eq, dF (by simp only [List.length_cons]; omega), cF, List.take_length, digits_ok (by omega) (by omega) (by omega), bS, he, BEq.rfl]
theorem whole_ok {k : Nat} (hk : 130 ≤ k) {x : Int} (h0 : -9223372036854775808 ≤ x) (h1 : x ≤ 9223372036854775807) : quiverref7_whole.f idb k (digT x) = some (x, true) := by
  have p19 : (10 : Nat) ^ 19 = 10000000000000000000 := by decide
  by_cases h : x < 0
  · obtain ⟨v1, v2, v3⟩ := digs_val 19 x.natAbs (by omega) (by omega)
    have e : digT x = 45 :: dbytes (digs 19 x.natAbs) := by unfold digT; rw [if_pos h, dec_dbytes (by omega)]
    have hx : -((horner (digs 19 x.natAbs) : Nat) : Int) = x := by rw [v1]; omega
    have := whole_neg hk v2 (digs_len _ _) (by rw [v1]; omega) (by rw [hx]; exact e)
    rw [hx] at this
    rw [e]; exact this
  · obtain ⟨v1, v2, v3⟩ := digs_val 19 x.toNat (by omega) (by omega)
    have e : digT x = dbytes (digs 19 x.toNat) := by unfold digT; rw [if_neg h, dec_dbytes (by omega)]
    have hx : ((horner (digs 19 x.toNat) : Nat) : Int) = x := by rw [v1]; omega
    have := whole_pos hk v2 v3 (digs_len _ _) (by rw [v1]; omega) (by rw [hx]; exact e)
    rw [hx] at this
    rw [e]; exact this
def At (s : List UInt8) (p : Nat) (v : List UInt8) : Prop := ∃ pre post, s = pre ++ v ++ post ∧ pre.length = p
theorem At.left {s a b : List UInt8} {p : Nat} (h : At s p (a ++ b)) : At s p a := by
  obtain ⟨pre, post, rfl, e⟩ := h
  exact ⟨pre, b ++ post, by simp [List.append_assoc], e⟩
theorem At.right {s a b : List UInt8} {p : Nat} (h : At s p (a ++ b)) : At s (p + a.length) b := by
  obtain ⟨pre, post, rfl, e⟩ := h
  exact ⟨pre ++ a, post, by simp [List.append_assoc], by simp [e]⟩
theorem At.le {s v : List UInt8} {p : Nat} (h : At s p v) : p + v.length ≤ s.length := by
  obtain ⟨pre, post, rfl, e⟩ := h
  simp only [List.length_append]; omega
theorem At.get {s v : List UInt8} {p : Nat} (h : At s p v) {j : Nat} (hj : j < v.length) : s[p + j]? = v[j]? := by
  obtain ⟨pre, post, rfl, e⟩ := h
  rw [List.append_assoc, List.getElem?_append_right (by omega), List.getElem?_append_left (by omega)]
  congr 1; omega
theorem At.head {s r : List UInt8} {b : UInt8} {p : Nat} (h : At s p (b :: r)) : rd s (p : Int) = some b := by
  have := h.get (j := 0) (by simp)
  have hl := h.le
  rw [List.length_cons] at hl
  rw [rd_get (by omega)]
  rw [Nat.add_zero, List.getElem?_eq_getElem (by omega)] at this
  exact this
theorem At.slice {s v : List UInt8} {p : Nat} (h : At s p v) : (s.take (p + v.length)).drop p = v := by
  obtain ⟨pre, post, rfl, e⟩ := h
  subst e
  rw [show pre.length + v.length = (pre ++ v).length by simp, List.take_left', List.drop_left']
  · rfl
  · rfl
/-- A sign's place. -/
theorem upto_ok {k : Nat} (hk : 40 ≤ k) {s m : List UInt8} {c : UInt8} {p : Nat} (h : At s p (m ++ [c])) (hm : m.length ≤ 21) (hn : ∀ b ∈ m, b ≠ c) (hp : p ≤ 1000000) : quiverref7_upto.f idb k s (p : Int) (c.toNat : Int) = some ((p + m.length : Nat) : Int) := by
  obtain ⟨k, rfl⟩ : ∃ q, k = q + 1 := ⟨k - 1, by omega⟩
  have hl := h.le
  rw [List.length_append, List.length_singleton] at hl
  rw [quiverref7_upto.f_eq]
  refine loop_up (F := fun n j => quiverref7_upto.l0 idb k n s (p : Int) (c.toNat : Int) ((p + j : Nat) : Int)) (N := m.length) ?_ ?_ k 0 (by omega) (by omega)
  · intro n j hj
    have hb := rd_get (l := s) (i := p + j) (by omega)
    have e := h.get (j := j) (by simp; omega)
    rw [List.getElem?_append_left hj, List.getElem?_eq_getElem (by omega), List.getElem?_eq_getElem hj, Option.some.injEq] at e
    have hne : (((m[j]).toNat : Int) == (c.toNat : Int)) = false := by
      rw [beq_eq_false_iff_ne]
      intro e'
      exact hn _ (List.getElem_mem hj) (UInt8.toNat_inj.1 (by omega))
    rw [quiverref7_upto.l0_eq, dT (by omega), cT, wi64 ((p : Int) + 22) (by omega), dT (by omega), cT, hb, bS, e, hne, cF, wsucc (by omega)]
    rfl
  · intro n
    have hb := rd_get (l := s) (i := p + m.length) (by omega)
    have e := h.get (j := m.length) (by simp)
    rw [List.getElem?_append_right (Nat.le_refl _), List.getElem?_eq_getElem (by omega), Nat.sub_self, List.getElem?_cons_zero, Option.some.injEq] at e
    rw [quiverref7_upto.l0_eq, dT (by omega), cT, wi64 ((p : Int) + 22) (by omega), dT (by omega), cT, hb, bS, e, BEq.rfl, cT]
inductive Leafy : List UInt8 → Prop
  | n : Leafy [110]
  | t : Leafy [116]
  | f : Leafy [102]
  | i (x : Int) (h0 : -9223372036854775808 ≤ x) (h1 : x ≤ 9223372036854775807) : Leafy (intT x)
  | s (l : List UInt8) (h : l.length ≤ 100000) : Leafy (bytesT l)
def Tx : Nat → List UInt8 → Prop
  | 0, v => Leafy v ∨ v = listT [] ∨ v = structT []
  | d + 1, v => Leafy v ∨ ∃ vs, (∀ w ∈ vs, Tx d w) ∧ (v = listT vs ∨ v = structT vs)
theorem Leafy.tx {v : List UInt8} (h : Leafy v) (d : Nat) : Tx d v := by
  cases d with
  | zero => exact .inl h
  | succ d => exact .inl h
theorem Leafy.head {v : List UInt8} (h : Leafy v) : ∃ b r, v = b :: r ∧ b ≠ 93 ∧ b ≠ 125 := by
  cases h with
  | n => exact ⟨_, _, rfl, by decide, by decide⟩
  | t => exact ⟨_, _, rfl, by decide, by decide⟩
  | f => exact ⟨_, _, rfl, by decide, by decide⟩
  | i x => exact ⟨105, _, rfl, by decide, by decide⟩
  | s l => exact ⟨115, _, rfl, by decide, by decide⟩
theorem Tx.head {d : Nat} {v : List UInt8} (h : Tx d v) : ∃ b r, v = b :: r ∧ b ≠ 93 ∧ b ≠ 125 := by
  cases d with
  | zero =>
    rcases h with h | rfl | rfl
    · exact h.head
    · exact ⟨91, _, rfl, by decide, by decide⟩
    · exact ⟨123, _, rfl, by decide, by decide⟩
  | succ d =>
    rcases h with h | ⟨vs, _, rfl | rfl⟩
    · exact h.head
    · exact ⟨91, _, rfl, by decide, by decide⟩
    · exact ⟨123, _, rfl, by decide, by decide⟩
theorem digT_chars {x : Int} (h0 : -9223372036854775808 ≤ x) (h1 : x ≤ 9223372036854775807) : (digT x).length ≤ 20 ∧ ∀ b ∈ digT x, b ≠ 58 ∧ b ≠ 59 := by
  have p19 : (10 : Nat) ^ 19 = 10000000000000000000 := by decide
  have key : ∀ n : Nat, n < 10 ^ 19 → (dec n).length ≤ 19 ∧ ∀ b ∈ dec n, b ≠ 58 ∧ b ≠ 59 := by
    intro n hn
    obtain ⟨_, hd, _⟩ := digs_val 19 n hn (by omega)
    rw [dec_dbytes hn]
    refine ⟨by unfold dbytes; rw [List.length_map]; exact digs_len 19 n, fun b hb => ?_⟩
    unfold dbytes at hb
    obtain ⟨d, hd', rfl⟩ := List.mem_map.1 hb
    have hlt := hd d hd'
    have e : (UInt8.ofNat (48 + d)).toNat = 48 + d := by rw [UInt8.toNat_ofNat']; omega
    constructor <;> (intro e'; rw [e'] at e; simp at e; omega)
  unfold digT
  split
  · obtain ⟨k1, k2⟩ := key x.natAbs (by omega)
    refine ⟨by simp only [List.length_cons]; omega, fun b hb => ?_⟩
    rcases List.mem_cons.1 hb with rfl | hb
    · exact ⟨by decide, by decide⟩
    · exact k2 b hb
  · obtain ⟨k1, k2⟩ := key x.toNat (by omega)
    exact ⟨by omega, k2⟩
theorem end_leaf {k : Nat} (hk : 200 ≤ k) {s v : List UInt8} (hv : Leafy v) {p : Nat} (h : At s p v) (hs : s.length ≤ 1000000) (D : Int) : quiverref7_end.f idb k s (p : Int) D = some ((p + v.length : Nat) : Int) := by
  obtain ⟨k, rfl⟩ : ∃ q, k = q + 1 := ⟨k - 1, by omega⟩
  have hl := h.le
  cases hv with
  | n =>
    simp only [List.length_cons, List.length_nil] at hl ⊢
    rw [quiverref7_end.f_eq, dF (by omega), cF, h.head, bS, show (((110 : UInt8).toNat : Int)) = 110 from rfl]
    simp only [BEq.rfl, cT]
    rw [wsucc (by omega)]
  | t =>
    simp only [List.length_cons, List.length_nil] at hl ⊢
    rw [quiverref7_end.f_eq, dF (by omega), cF, h.head, bS, show (((116 : UInt8).toNat : Int)) = 116 from rfl]
    simp only [show ((116 : Int) == 110) = false from by decide, BEq.rfl, cT, cF]
    rw [wsucc (by omega)]
  | f =>
    simp only [List.length_cons, List.length_nil] at hl ⊢
    rw [quiverref7_end.f_eq, dF (by omega), cF, h.head, bS, show (((102 : UInt8).toNat : Int)) = 102 from rfl]
    simp only [show ((102 : Int) == 110) = false from by decide, show ((102 : Int) == 116) = false from by decide, BEq.rfl, cT, cF]
    rw [wsucc (by omega)]
  | i x h0 h1 =>
    obtain ⟨c1, c2⟩ := digT_chars h0 h1
    have hu := upto_ok (k := k) (by omega) (s := s) (m := [105] ++ digT x) (c := 59) (p := p) h (by simp; omega) (fun b hb => by
      rcases List.mem_append.1 hb with hb | hb
      · rw [List.mem_singleton.1 hb]; decide
      · exact (c2 b hb).2) (by omega)
    have hh : At s p (105 :: (digT x ++ [59])) := h
    have hsl : At s (p + 1) (digT x) := by
      have h' : At s p ([105] ++ (digT x ++ [59])) := h
      exact h'.right.left
    have hslice := hsl.slice
    unfold intT at hl ⊢
    simp only [List.length_append, List.length_cons, List.length_nil] at hl ⊢
    rw [List.length_append, List.length_singleton, show (((59 : UInt8).toNat : Int)) = 59 from rfl] at hu
    rw [quiverref7_end.f_eq, dF (by omega), cF, hh.head, bS, show (((105 : UInt8).toNat : Int)) = 105 from rfl]
    simp only [show ((105 : Int) == 110) = false from by decide, show ((105 : Int) == 116) = false from by decide, show ((105 : Int) == 102) = false from by decide, BEq.rfl, cT, cF]
    rw [hu, bS, dF (by omega), cF, dT (by omega), dT (by omega), wi64 ((p : Int) + 1) (by omega), dT (by omega), dT (by omega)]
    simp only [Bool.and_self, cT, Int.toNat_natCast]
    rw [show ((p : Int) + 1).toNat = p + 1 by omega, show p + (1 + (digT x).length) = p + 1 + (digT x).length by omega, hslice, whole_ok (by omega) h0 h1, bS]
    simp only [Bool.not_true, cF]
    rw [wi64 _ (by omega)]
    congr 1; omega
  | s l hl4 =>
    have hx : digT ((l.length : Nat) : Int) = dec l.length := digT_nat _
    obtain ⟨c1, c2⟩ := digT_chars (x := ((l.length : Nat) : Int)) (by omega) (by omega)
    rw [hx] at c1 c2
    have hb1 : At s p (([115] ++ dec l.length) ++ [58]) := At.left (b := l) h
    have hu := upto_ok (k := k) (by omega) (s := s) (m := [115] ++ dec l.length) (c := 58) (p := p) hb1 (by simp; omega) (fun b hb => by
      rcases List.mem_append.1 hb with hb | hb
      · rw [List.mem_singleton.1 hb]; decide
      · exact (c2 b hb).1) (by omega)
    have hh : At s p (115 :: (dec l.length ++ [58])) := hb1
    have hsl : At s (p + 1) (dec l.length) := by
      have h' : At s p ([115] ++ (dec l.length ++ [58])) := hb1
      exact h'.right.left
    have hslice := hsl.slice
    unfold bytesT at hl ⊢
    simp only [List.length_append, List.length_cons, List.length_nil] at hl ⊢
    rw [List.length_append, List.length_singleton, show (((58 : UInt8).toNat : Int)) = 58 from rfl] at hu
    have hw := whole_ok (k := k) (by omega) (x := ((l.length : Nat) : Int)) (by omega) (by omega)
    rw [hx] at hw
    rw [quiverref7_end.f_eq, dF (by omega), cF, hh.head, bS, show (((115 : UInt8).toNat : Int)) = 115 from rfl]
    simp only [show ((115 : Int) == 110) = false from by decide, show ((115 : Int) == 116) = false from by decide, show ((115 : Int) == 102) = false from by decide, show ((115 : Int) == 105) = false from by decide, BEq.rfl, cT, cF]
    rw [hu, bS, dF (by omega), cF, dT (by omega), dT (by omega), wi64 ((p : Int) + 1) (by omega), dT (by omega), dT (by omega)]
    simp only [Bool.and_self, cT, Int.toNat_natCast]
    rw [show ((p : Int) + 1).toNat = p + 1 by omega, show p + (1 + (dec l.length).length) = p + 1 + (dec l.length).length by omega, hslice, hw, bS]
    simp only [Bool.not_true, Bool.not_false, cT]
    rw [dF (by omega), Bool.not_false, cT, wi64 ((s.length : Int) - _) (by omega), wi64 (_ - 1) (by omega), dF (by omega), cF, wi64 (_ + 1) (by omega), wi64 _ (by omega)]
    congr 1; omega
/-- The first so many values of a row, one behind the other. -/
def cat (vs : List (List UInt8)) (j : Nat) : Nat := ((vs.take j).flatten).length
theorem cat_succ {vs : List (List UInt8)} {j : Nat} (h : j < vs.length) : cat vs (j + 1) = cat vs j + (vs[j]).length := by
  unfold cat
  rw [List.take_succ_eq_append_getElem h, List.flatten_append, List.length_append]
  simp
theorem cat_all (vs : List (List UInt8)) : cat vs vs.length = vs.flatten.length := by unfold cat; rw [List.take_length]
theorem At.cat {s : List UInt8} {p : Nat} {vs : List (List UInt8)} (h : At s p vs.flatten) {j : Nat} (hj : j < vs.length) : At s (p + cat vs j) vs[j] := by
  have e : vs.flatten = (vs.take j).flatten ++ (vs[j] ++ (vs.drop (j + 1)).flatten) := by
    have e : vs.take j ++ (vs[j] :: vs.drop (j + 1)) = vs := by rw [← List.drop_eq_getElem_cons hj, List.take_append_drop]
    exact (congrArg List.flatten e).symm.trans (by rw [List.flatten_append, List.flatten_cons])
  rw [e] at h
  exact h.right.left
theorem head_ne {s v : List UInt8} {d p : Nat} (hv : Tx d v) (h : At s p v) : ∃ b, rd s (p : Int) = some b ∧ b ≠ 93 ∧ b ≠ 125 := by
  obtain ⟨b, r, rfl, h1, h2⟩ := hv.head
  exact ⟨b, h.head, h1, h2⟩
theorem Tx.pos {d : Nat} {v : List UInt8} (h : Tx d v) : 0 < v.length := by
  obtain ⟨b, r, rfl, _⟩ := h.head
  simp
theorem flatten_ge : ∀ (vs : List (List UInt8)), (∀ w ∈ vs, 0 < w.length) → vs.length ≤ vs.flatten.length
  | [], _ => Nat.le_refl _
  | v :: vs, h => by
    have h1 := h v List.mem_cons_self
    have h2 := flatten_ge vs fun w hw => h w (List.mem_cons_of_mem _ hw)
    simp only [List.length_cons, List.flatten_cons, List.length_append]; omega
theorem take_flatten_le {vs : List (List UInt8)} (j : Nat) : cat vs j ≤ vs.flatten.length := by
  have e : vs.flatten = (vs.take j).flatten ++ (vs.drop j).flatten := by rw [← List.flatten_append, List.take_append_drop]
  unfold cat
  rw [e, List.length_append]; omega
theorem end_none {k : Nat} (hk : 200 ≤ k) {s v : List UInt8} (b : Bool) (hv : v = if b then listT [] else structT []) {p : Nat} (h : At s p v) (hs : s.length ≤ 100000) (D : Int) : quiverref7_end.f idb k s (p : Int) D = some ((p + v.length : Nat) : Int) := by
  obtain ⟨k, rfl⟩ : ∃ q, k = q + 1 := ⟨k - 1, by omega⟩
  obtain ⟨k, rfl⟩ : ∃ q, k = q + 1 := ⟨k - 1, by omega⟩
  have hl := h.le
  have row : ∀ c : UInt8, At s (p + 1) [c] → p + 1 < s.length → quiverref7_end.l1 idb (k + 1) (k + 1) s ((p + 1 : Nat) : Int) D (c.toNat : Int) = some ((p + 2 : Nat) : Int) := by
    intro c hc hlt
    have hh := At.head hc
    rw [quiverref7_end.l1_eq, dT (show ((p + 1 : Nat) : Int) < (s.length : Int) by omega), cT, hh, bS, bne_self_eq_false, cF, bS, BEq.rfl, cT, wsucc (by omega), cT]
    cases decide (D > 0) <;> rfl
  subst hv
  cases b with
  | true =>
    have hl' : p + 2 ≤ s.length := hl
    have hh : At s p (91 :: [93]) := h
    have hr : At s (p + 1) [93] := At.right (a := [91]) hh
    rw [quiverref7_end.f_eq, dF (by omega), cF, hh.head, bS, show (((91 : UInt8).toNat : Int)) = 91 from rfl]
    simp only [show ((91 : Int) == 110) = false from by decide, show ((91 : Int) == 116) = false from by decide, show ((91 : Int) == 102) = false from by decide, show ((91 : Int) == 105) = false from by decide, show ((91 : Int) == 115) = false from by decide, BEq.rfl, cT, cF]
    rw [bS, wsucc (by omega), show IntKind.u8.wrap (((91 : UInt8).toNat : Int) + 2) = (((93 : UInt8)).toNat : Int) from by decide]
    exact row 93 hr (by omega)
  | false =>
    have hl' : p + 2 ≤ s.length := hl
    have hh : At s p (123 :: [125]) := h
    have hr : At s (p + 1) [125] := At.right (a := [123]) hh
    rw [quiverref7_end.f_eq, dF (by omega), cF, hh.head, bS, show (((123 : UInt8).toNat : Int)) = 123 from rfl]
    simp only [show ((123 : Int) == 110) = false from by decide, show ((123 : Int) == 116) = false from by decide, show ((123 : Int) == 102) = false from by decide, show ((123 : Int) == 105) = false from by decide, show ((123 : Int) == 115) = false from by decide, show ((123 : Int) == 91) = false from by decide, BEq.rfl, cT, cF]
    rw [bS, wsucc (by omega), show IntKind.u8.wrap (((123 : UInt8).toNat : Int) + 2) = (((125 : UInt8)).toNat : Int) from by decide]
    exact row 125 hr (by omega)
theorem end_ok : ∀ (d : Nat) {k : Nat}, 100200 + d ≤ k → ∀ {s v : List UInt8}, Tx d v → ∀ {p : Nat}, At s p v → s.length ≤ 100000 → ∀ {D : Int}, (d : Int) ≤ D → D ≤ 100 → quiverref7_end.f idb k s (p : Int) D = some ((p + v.length : Nat) : Int)
  | 0, k, hk, s, v, hv, p, h, hs, D, _, _ => by
    rcases hv with hv | hv | hv
    · exact end_leaf (by omega) hv h (by omega) D
    · exact end_none (by omega) true hv h hs D
    · exact end_none (by omega) false hv h hs D
  | d + 1, k, hk, s, v, hv, p, h, hs, D, hD, hD2 => by
    rcases hv with hv | ⟨vs, hvs, hv⟩
    · exact end_leaf (by omega) hv h (by omega) D
    obtain ⟨k, rfl⟩ : ∃ q, k = q + 1 := ⟨k - 1, by omega⟩
    have hl := h.le
    have hvl : v.length = vs.flatten.length + 2 := by
      rcases hv with rfl | rfl
      · unfold listT; simp only [List.length_append, List.length_cons, List.length_nil]; omega
      · unfold structT; simp only [List.length_append, List.length_cons, List.length_nil]; omega
    have hn := flatten_ge vs fun w hw => (hvs w hw).pos
    -- the row
    have row : ∀ c : UInt8, (c = 93 ∨ c = 125) → At s (p + 1) (vs.flatten ++ [c]) → quiverref7_end.l1 idb k k s ((p + 1 : Nat) : Int) D (c.toNat : Int) = some ((p + v.length : Nat) : Int) := by
      intro c hc hrow
      have hfl := hrow.left
      have hlast := hrow.right
      have key := loop_up (F := fun n j => quiverref7_end.l1 idb k n s ((p + 1 + cat vs j : Nat) : Int) D (c.toNat : Int)) (N := vs.length) (r := some ((p + v.length : Nat) : Int)) ?_ ?_ k 0 (by omega) (by omega)
      · exact key
      · intro n j hj
        have hw := hvs _ (List.getElem_mem hj)
        have hat := hfl.cat hj
        obtain ⟨b, hb, n1, n2⟩ := head_ne hw hat
        have hle := hat.le
        have hp := hw.pos
        have hne : ((b.toNat : Int) != (c.toNat : Int)) = true := by
          rw [bne_iff_ne]
          intro e
          have : b = c := UInt8.toNat_inj.1 (by omega)
          rcases hc with rfl | rfl
          · exact n1 this
          · exact n2 this
        rw [quiverref7_end.l1_eq, dT (by omega), cT, dT (by omega), cT, hb, bS, hne, cT, wi64 (D - 1) (by omega), end_ok d (k := k) (by omega) hw hat hs (by omega) (by omega), bS, dF (by omega), cF, cat_succ hj, Nat.add_assoc (p + 1)]
      · intro n
        have hh : rd s ((p + 1 + cat vs vs.length : Nat) : Int) = some c := by rw [cat_all]; exact At.head hlast
        have hle := hlast.le
        rw [List.length_singleton] at hle
        have e := cat_all vs
        have hne : ((c.toNat : Int) != (c.toNat : Int)) = false := by simp
        rw [quiverref7_end.l1_eq, dT (by omega), cT, dT (by omega), cT, hh, bS, hne, cF, bS, BEq.rfl, cT, cT, wsucc (by omega), show p + 1 + cat vs vs.length + 1 = p + v.length by omega]
    rcases hv with rfl | rfl
    · have hh : At s p (91 :: (vs.flatten ++ [93])) := by have := h; unfold listT at this; simpa using this
      have hr : At s (p + 1) (vs.flatten ++ [93]) := At.right (a := [91]) hh
      rw [quiverref7_end.f_eq, dF (by omega), cF, hh.head, bS, show (((91 : UInt8).toNat : Int)) = 91 from rfl]
      simp only [show ((91 : Int) == 110) = false from by decide, show ((91 : Int) == 116) = false from by decide, show ((91 : Int) == 102) = false from by decide, show ((91 : Int) == 105) = false from by decide, show ((91 : Int) == 115) = false from by decide, BEq.rfl, cT, cF]
      rw [bS, wsucc (by omega), show IntKind.u8.wrap (((91 : UInt8).toNat : Int) + 2) = (((93 : UInt8)).toNat : Int) from by decide]
      exact row 93 (.inl rfl) hr
    · have hh : At s p (123 :: (vs.flatten ++ [125])) := by have := h; unfold structT at this; simpa using this
      have hr : At s (p + 1) (vs.flatten ++ [125]) := At.right (a := [123]) hh
      rw [quiverref7_end.f_eq, dF (by omega), cF, hh.head, bS, show (((123 : UInt8).toNat : Int)) = 123 from rfl]
      simp only [show ((123 : Int) == 110) = false from by decide, show ((123 : Int) == 116) = false from by decide, show ((123 : Int) == 102) = false from by decide, show ((123 : Int) == 105) = false from by decide, show ((123 : Int) == 115) = false from by decide, show ((123 : Int) == 91) = false from by decide, BEq.rfl, cT, cF]
      rw [bS, wsucc (by omega), show IntKind.u8.wrap (((123 : UInt8).toNat : Int) + 2) = (((125 : UInt8)).toNat : Int) from by decide]
      exact row 125 (.inr rfl) hr
theorem At.whole (v : List UInt8) : At v 0 v := ⟨[], [], by simp, rfl⟩
theorem Tx.mono : ∀ (d : Nat) {v : List UInt8}, Tx d v → Tx (d + 1) v
  | 0, _, h => by
    rcases h with h | rfl | rfl
    · exact .inl h
    · exact .inr ⟨[], (fun w hw => by cases hw), .inl rfl⟩
    · exact .inr ⟨[], (fun w hw => by cases hw), .inr rfl⟩
  | d + 1, _, h => by
    rcases h with h | ⟨vs, hvs, hv⟩
    · exact .inl h
    · exact .inr ⟨vs, fun w hw => Tx.mono d (hvs w hw), hv⟩
theorem Tx.up {d e : Nat} {v : List UInt8} (h : Tx d v) (hde : d ≤ e) : Tx e v := by
  induction e with
  | zero => rw [show d = 0 by omega] at h; exact h
  | succ e ih =>
    by_cases hd : d ≤ e
    · exact (ih hd).mono
    · rw [show d = e + 1 by omega] at h; exact h
theorem end_whole {k : Nat} (hk : 100300 ≤ k) {v : List UInt8} (hv : Tx 4 v) (hl : v.length ≤ 65536) : quiverref7_end.f idb k v 0 4 = some ((v.length : Nat) : Int) := by
  have := end_ok 4 (k := k) (by omega) hv (At.whole v) (by omega) (D := 4) (by omega) (by omega)
  rw [show ((0 : Nat) : Int) = 0 from rfl, Nat.zero_add] at this
  exact this
theorem Parts_nil {k : Nat} (hk : 100301 ≤ k) : quiverref7_Parts.f idb k [110] = some (-1, [], 0) := by
  obtain ⟨k, rfl⟩ : ∃ q, k = q + 1 := ⟨k - 1, by omega⟩
  have := end_whole (k := k) (by omega) (Leafy.n.tx 4) (by decide)
  rw [quiverref7_Parts.f_eq, dF (by decide), Bool.not_false, cT, this, bS]
  rfl
theorem Parts_bool {k : Nat} (hk : 100301 ≤ k) (b : Bool) : quiverref7_Parts.f idb k (boolT b) = some (1, [boolT b], 0) := by
  obtain ⟨k, rfl⟩ : ∃ q, k = q + 1 := ⟨k - 1, by omega⟩
  cases b with
  | true =>
    have := end_whole (k := k) (by omega) (Leafy.t.tx 4) (by decide)
    show quiverref7_Parts.f idb (k + 1) [116] = _
    rw [quiverref7_Parts.f_eq, dF (by decide), Bool.not_false, cT, this, bS]
    rfl
  | false =>
    have := end_whole (k := k) (by omega) (Leafy.f.tx 4) (by decide)
    show quiverref7_Parts.f idb (k + 1) [102] = _
    rw [quiverref7_Parts.f_eq, dF (by decide), Bool.not_false, cT, this, bS]
    rfl
theorem Parts_int {k : Nat} (hk : 100301 ≤ k) {x : Int} (h0 : -9223372036854775808 ≤ x) (h1 : x ≤ 9223372036854775807) : ∃ ps, quiverref7_Parts.f idb k (intT x) = some (0, ps, 0) := by
  obtain ⟨k, rfl⟩ : ∃ q, k = q + 1 := ⟨k - 1, by omega⟩
  obtain ⟨c1, _⟩ := digT_chars h0 h1
  have hlen : (intT x).length = (digT x).length + 2 := by unfold intT; simp only [List.length_append, List.length_cons, List.length_nil]; omega
  have := end_whole (k := k) (by omega) ((Leafy.i x h0 h1).tx 4) (by omega)
  have hh : At (intT x) 0 (105 :: (digT x ++ [59])) := At.whole _
  have hd := hh.head
  rw [show ((0 : Nat) : Int) = 0 from rfl] at hd
  refine ⟨[List.drop 1 (List.take ((((intT x).length : Nat) : Int) - 1).toNat (intT x))], ?_⟩
  rw [quiverref7_Parts.f_eq, dF (by omega), Bool.not_false, cT, this, bS, show (((intT x).length : Int) != ((intT x).length : Int)) = false by simp, cF, hd, bS, show (((105 : UInt8).toNat : Int)) = 105 from rfl]
  simp only [show ((105 : Int) == 110) = false from by decide, BEq.rfl, cT, cF]
  rw [wi64 _ (by omega), dT (by omega), dT (by omega), dT (show (0 : Nat) ≤ 1 by omega), dT (by omega)]
  simp only [Bool.and_self, cT]
theorem Parts_bytes' {k : Nat} (hk : 100301 ≤ k) {l : List UInt8} (hl : (bytesT l).length ≤ 65536) : quiverref7_Parts.f idb k (bytesT l) = some (2, [l], 0) := by
  obtain ⟨k, rfl⟩ : ∃ q, k = q + 1 := ⟨k - 1, by omega⟩
  have hx : digT ((l.length : Nat) : Int) = dec l.length := digT_nat _
  have hlen : (bytesT l).length = (dec l.length).length + 2 + l.length := by unfold bytesT; simp only [List.length_append, List.length_cons, List.length_nil]; omega
  obtain ⟨c1, c2⟩ := digT_chars (x := ((l.length : Nat) : Int)) (by omega) (by omega)
  rw [hx] at c1 c2
  have := end_whole (k := k) (by omega) ((Leafy.s l (by omega)).tx 4) (by omega)
  have hh : At (bytesT l) 0 (115 :: (dec l.length ++ [58] ++ l)) := by have := At.whole (bytesT l); unfold bytesT at this ⊢; simpa using this
  have hd := hh.head
  rw [show ((0 : Nat) : Int) = 0 from rfl] at hd
  have hb1 : At (bytesT l) 0 (([115] ++ dec l.length) ++ [58]) := At.left (b := l) (At.whole _)
  have hu := upto_ok (k := k) (by omega) (m := [115] ++ dec l.length) (c := 58) (p := 0) hb1 (by simp; omega) (fun b hb => by
    rcases List.mem_append.1 hb with hb | hb
    · rw [List.mem_singleton.1 hb]; decide
    · exact (c2 b hb).1) (by omega)
  rw [List.length_append, List.length_singleton, show (((58 : UInt8).toNat : Int)) = 58 from rfl, show ((0 : Nat) : Int) = 0 from rfl] at hu
  rw [quiverref7_Parts.f_eq, dF (by omega), Bool.not_false, cT, this, bS, show (((bytesT l).length : Int) != ((bytesT l).length : Int)) = false by simp, cF, hd, bS, show (((115 : UInt8).toNat : Int)) = 115 from rfl]
  simp only [show ((115 : Int) == 110) = false from by decide, show ((115 : Int) == 105) = false from by decide, show ((115 : Int) == 116) = false from by decide, show ((115 : Int) == 102) = false from by decide, BEq.rfl, cT, cF]
  rw [hu, bS, wsucc (by omega), dT (by omega), dT (by omega)]
  simp only [Bool.and_self, cT, Int.toNat_natCast]
  have e : (bytesT l).drop (0 + (1 + (dec l.length).length) + 1) = l := by
    unfold bytesT
    rw [List.drop_left']
    simp only [List.length_append, List.length_cons, List.length_nil]; omega
  rw [List.take_length, e]
theorem Parts_bytes {k : Nat} (hk : 100301 ≤ k) {l : List UInt8} (hl : l.length ≤ 4096) : quiverref7_Parts.f idb k (bytesT l) = some (2, [l], 0) := by
  refine Parts_bytes' hk ?_
  have := dec_len l.length
  unfold bytesT; simp only [List.length_append, List.length_cons, List.length_nil]; omega
theorem Parts_row {k : Nat} (hk : 100301 ≤ k) {d : Nat} (hd : d + 1 ≤ 4) {vs : List (List UInt8)} (hvs : ∀ w ∈ vs, Tx d w) (b : Bool) (hl : vs.flatten.length ≤ 65534) :
    quiverref7_Parts.f idb k (if b then listT vs else structT vs) = some (if b then 3 else 4, vs, 0) := by
  obtain ⟨k, rfl⟩ : ∃ q, k = q + 1 := ⟨k - 1, by omega⟩
  generalize hv : (if b then listT vs else structT vs) = v
  have hvl : v.length = vs.flatten.length + 2 := by
    rw [← hv]
    cases b
    · simp only [Bool.false_eq_true, if_false]; unfold structT; simp only [List.length_append, List.length_cons, List.length_nil]; omega
    · simp only [if_true]; unfold listT; simp only [List.length_append, List.length_cons, List.length_nil]; omega
  have htx : Tx (d + 1) v := .inr ⟨vs, hvs, by rw [← hv]; cases b <;> simp⟩
  have hen := end_whole (k := k) (by omega) (htx.up hd) (by omega)
  have hn := flatten_ge vs fun w hw => (hvs w hw).pos
  have hfl : At v 1 vs.flatten := by
    rw [← hv]
    cases b
    · simp only [Bool.false_eq_true, if_false]; unfold structT; exact ⟨[123], [125], by simp, rfl⟩
    · simp only [if_true]; unfold listT; exact ⟨[91], [93], by simp, rfl⟩
  have hd0 : rd v 0 = some (if b then 91 else 123) := by
    have hh : At v 0 ((if b then 91 else 123) :: (vs.flatten ++ [if b then 93 else 125])) := by
      rw [← hv]
      cases b
      · exact ⟨[], [], by simp [structT], rfl⟩
      · exact ⟨[], [], by simp [listT], rfl⟩
    exact hh.head
  have row : quiverref7_Parts.l1 idb k k v 1 [] = some (if b then 3 else 4, vs, 0) := by
    have key := loop_up (F := fun n j => quiverref7_Parts.l1 idb k n v ((1 + cat vs j : Nat) : Int) (vs.take j)) (N := vs.length) (r := some (if b then 3 else 4, vs, 0)) ?_ ?_ k 0 (by omega) (by omega)
    · exact key
    · intro n j hj
      have hw := hvs _ (List.getElem_mem hj)
      have hat := hfl.cat hj
      have hle := hat.le
      have hp := hw.pos
      have hsl := hat.slice
      have hc := take_flatten_le (vs := vs) (j + 1)
      rw [cat_succ hj] at hc
      have hend := end_ok d (k := k) (by omega) hw hat (by omega) (D := 4) (by omega) (by omega)
      rw [quiverref7_Parts.l1_eq, wi64 ((v.length : Int) - 1) (by omega), dT (by omega), cT, hend, bS, dT (by omega), dT (by omega), dT (by omega), dT (by omega)]
      simp only [Bool.and_self, cT, Int.toNat_natCast]
      rw [hsl, dT (by simp only [List.length_take, List.length_cons, List.length_nil]; omega), cT, cat_succ hj, ← List.take_succ_eq_append_getElem hj, Nat.add_assoc 1]
    · intro n
      have e := cat_all vs
      rw [quiverref7_Parts.l1_eq, wi64 ((v.length : Int) - 1) (by omega), dF (by omega), cF, hd0, bS, List.take_length]
      cases b <;> rfl
  rw [quiverref7_Parts.f_eq, dF (by omega), Bool.not_false, cT, hen, bS, show ((v.length : Int) != (v.length : Int)) = false by simp, cF, hd0, bS]
  have q1 : ((((if b then 91 else 123 : UInt8)).toNat : Int) == 110) = false := by cases b <;> rfl
  have q2 : ((((if b then 91 else 123 : UInt8)).toNat : Int) == 105) = false := by cases b <;> rfl
  have q3 : ((((if b then 91 else 123 : UInt8)).toNat : Int) == 116) = false := by cases b <;> rfl
  have q4 : ((((if b then 91 else 123 : UInt8)).toNat : Int) == 102) = false := by cases b <;> rfl
  have q5 : ((((if b then 91 else 123 : UInt8)).toNat : Int) == 115) = false := by cases b <;> rfl
  simp only [q1, q2, q3, q4, q5, cF]
  show quiverref7_Parts.j13 idb k v = _
  rw [quiverref7_Parts.j13_eq]
  exact row
/-- A row of an array that may be. -/
structure RowOf (f : Nat) (t : List Nod) (a : Int) (y : Arr) (r : Nat) : Prop where
  nd : need t a y < f
  may : arrB t a y = true
  lo : y.offset ≤ (r : Int)
  hi : r < rowsN y
/-- What a row's text is. -/
inductive RowT (f : Nat) (t : List Nod) (i : Nat) : List UInt8 → Prop
  | null (h : nul t i = true) : RowT f t i [110]
  | kid (y : Arr) (r : Nat) (h : RowOf f t (i : Int) y r) : RowT f t i (valA f t (i : Int) y r)
  | int (h : knd t i = 0) (z : Int) (h0 : -9223372036854775808 ≤ z) (h1 : z ≤ 9223372036854775807) : RowT f t i (intT z)
  | bool (h : knd t i = 1) (b : Bool) : RowT f t i (boolT b)
  | bytes (h : knd t i = 2) (s : List UInt8) (hs : s.length ≤ 16) : RowT f t i (bytesT s)
  | list (h : knd t i = 3) (h1 : (kidsL t (i : Int)).length = 1) (vs : List (List UInt8)) (hl : vs.length ≤ 64) (hv : ∀ w ∈ vs, ∃ y r, RowOf f t (ksT t (i : Int) 0) y r ∧ w = valA f t (ksT t (i : Int) 0) y r) : RowT f t i (listT vs)
  | struct (h : knd t i = 4) (vs : List (List UInt8)) (hl : vs.length = (kidsL t (i : Int)).length) (hv : ∀ j (hj : j < vs.length), ∃ y r, RowOf f t (ksT t (i : Int) j) y r ∧ vs[j] = valA f t (ksT t (i : Int) j) y r) : RowT f t i (structT vs)
theorem row_is {f : Nat} {t : List Nod} {i : Nat} {x : Arr} {row : Nat} (h : RowOf (f + 1) t (i : Int) x row) : RowT f t i (valA (f + 1) t (i : Int) x row) := by
  obtain ⟨hf, hb, h0, hr⟩ := h
  obtain ⟨hn, hB⟩ := arrB_buf hb
  obtain ⟨hm, i', hi, e⟩ := nodeB_may hn
  have hii : i = i' := by omega
  subst hii
  have hrw := hB.rowsEq
  have hrl := hB.rowsN_le
  rw [valA_succ]
  by_cases hth : thereB x.valid row = false
  · rw [if_pos hth]
    refine .null ?_
    rcases hB.there with hv | hv
    · rw [hv] at hth; simp [thereB] at hth
    · have := hv.1; rw [Int.toNat_natCast] at this; exact this
  rw [if_neg hth]
  have hth' : thereB x.valid row = true := by simpa using hth
  by_cases hl1 : x.layout = 1
  · rw [if_pos hl1]
    obtain ⟨hO, hd'⟩ := arrB_one hb (by omega)
    rcases hd' with ⟨_, hd'⟩ | ⟨e, _⟩
    · obtain ⟨d1, d2, d3, d4⟩ := dictB_at hd' h0 hr hth'
      have hkl := arrB_len hO.may
      exact .kid _ _ ⟨by unfold need at hf ⊢; rw [if_neg (by omega)] at hf; rw [if_pos hO.flat]; omega, hO.may, by omega, by unfold rowsN; omega⟩
    · omega
  rw [if_neg hl1]
  by_cases hl2 : x.layout = 2
  · rw [if_pos hl2]
    obtain ⟨hO, hd'⟩ := arrB_one hb (by omega)
    rcases hd' with ⟨e, _⟩ | ⟨_, hd'⟩
    · omega
    · have hkl := arrB_len hO.may
      obtain ⟨m, m1, m2, m3, m4, m5⟩ := runB_at hd' (by omega) (row := row) (by omega)
      have hx := runFrom_spec m2 65 0 (by omega) (by omega)
      have hix : runIx x.data row ≤ m := hx.1
      exact .kid _ _ ⟨by unfold need at hf ⊢; rw [if_neg (by omega)] at hf; rw [if_pos hO.flat]; omega, hO.may, by omega, by unfold rowsN; omega⟩
  rw [if_neg hl2, Int.toNat_natCast]
  have hl0 := layout0 hb hl1 hl2
  have hP := arrB_plain hb hl0
  have hkd := hP.kind
  unfold kindM at hkd
  by_cases k0 : knd t i = 0
  · rw [if_pos k0]
    refine .int k0 _ ?_ ?_ <;> (unfold numOf; rw [IntKind.wrap_i64]; omega)
  rw [if_neg k0] at hkd ⊢
  by_cases k1 : knd t i = 1
  · rw [if_pos k1]; exact .bool k1 _
  rw [if_neg k1] at hkd ⊢
  by_cases k2 : knd t i = 2
  · rw [if_pos k2] at hkd ⊢
    have h16 := (endsB_at hkd hr).2.2.2.2.2 h0
    exact .bytes k2 _ (by rw [List.length_drop, List.length_take]; omega)
  rw [if_neg k2] at hkd ⊢
  by_cases k3 : knd t i = 3
  · rw [if_pos k3] at hkd ⊢
    simp only [Bool.and_eq_true] at hkd
    have he := endsB_at hkd.2 hr
    have h1 : (kidsL t (i : Int)).length = 1 := by
      have := (((mayT_iff t).1 hm).2.2 i hi).1
      unfold kidsB at this
      rw [k3] at this
      simpa using this
    have hk0 : 0 < x.kids.length := by rw [hP.kids]; omega
    have hmk := hP.may 0 hk0
    have hkl := arrB_len hmk
    have hnk := need_kid hm (x := x) (kidA x 0) (i := i) (j := 0) (by omega)
    refine .list k3 h1 _ (by rw [List.length_map, List.length_range']; omega) fun w hw => ?_
    obtain ⟨j, hj, rfl⟩ := List.mem_map.1 hw
    rw [List.mem_range'_1] at hj
    exact ⟨kidA x 0, (kidA x 0).offset.toNat + j, ⟨by omega, hmk, by omega, by unfold rowsN; omega⟩, rfl⟩
  rw [if_neg k3] at hkd ⊢
  simp only [Bool.and_eq_true, Bool.not_eq_true', List.any_eq_false, decide_eq_true_eq] at hkd
  have k4 : knd t i = 4 := by
    have hk := (((mayT_iff t).1 hm).2.1 i hi).1
    unfold kindB at hk
    simp only [Bool.and_eq_true, decide_eq_true_eq] at hk
    omega
  refine .struct k4 _ (by rw [List.length_map, List.length_range]) fun j hj => ?_
  rw [List.length_map, List.length_range] at hj
  have hj' : j < x.kids.length := by rw [hP.kids]; exact hj
  have hmk := hP.may j hj'
  have hkl := arrB_len hmk
  have hnk := need_kid hm (x := x) (kidA x j) hj
  have hlong := hkd.2.2 _ (kidA_mem hj')
  exact ⟨kidA x j, (kidA x j).offset.toNat + row, ⟨by omega, hmk, by omega, by unfold rowsN at hr ⊢; omega⟩, by simp⟩
/-- How deep a node's texts may be. -/
def dp (t : List Nod) (a : Int) : Nat := 5 - (wayL t a).length
theorem dp_kid {t : List Nod} (hm : mayT t = true) {i j : Nat} (hj : j < (kidsL t (i : Int)).length) : dp t (i : Int) = dp t (ksT t (i : Int) j) + 1 := by
  have hmem : ksT t (i : Int) j ∈ kidsL t (i : Int) := by unfold ksT; rw [getD_get hj]; exact List.getElem_mem hj
  obtain ⟨q, h1, _, h3, h4⟩ := mem_kidsL.1 hmem
  have hs := mayT_stands hm
  have hw := wayL_up hs h1
  have h5 := (((mayT_iff t).1 hm).2.2 q h1).2
  unfold dp
  rw [h4, hw, h3]
  rw [hw, h3] at h5
  simp only [List.length_cons] at h5 ⊢
  omega
theorem dp_le {t : List Nod} (hm : mayT t = true) {i : Nat} (hi : i < t.length) : dp t (i : Int) ≤ 4 := by
  have := wayL_length (mayT_stands hm) i hi
  unfold dp; omega
theorem valA_tx : ∀ (f : Nat) {t : List Nod} {a : Int} {x : Arr} {row : Nat}, RowOf f t a x row → Tx (dp t a) (valA f t a x row)
  | 0, _, _, _, _, h => absurd h.nd (Nat.not_lt_zero _)
  | f + 1, t, a, x, row, h => by
    obtain ⟨hn, hB⟩ := arrB_buf h.may
    obtain ⟨hm, i, hi, rfl⟩ := nodeB_may hn
    have hT := row_is h
    generalize valA (f + 1) t (i : Int) x row = v at hT
    cases hT with
    | null _ => exact Leafy.n.tx _
    | kid y r hy => exact valA_tx f hy
    | int _ z h0 h1 => exact (Leafy.i z h0 h1).tx _
    | bool _ b =>
      cases b with
      | false => exact Leafy.f.tx _
      | true => exact Leafy.t.tx _
    | bytes _ s hs => exact (Leafy.s s (by omega)).tx _
    | list _ h1 vs _ hv =>
      rw [dp_kid hm (i := i) (j := 0) (by omega)]
      refine .inr ⟨vs, fun w hw => ?_, .inl rfl⟩
      obtain ⟨y, r, hy, rfl⟩ := hv w hw
      exact valA_tx f hy
    | struct h4 vs hl hv =>
      have hk : 0 < (kidsL t (i : Int)).length := by
        have := (((mayT_iff t).1 hm).2.2 i hi).1
        unfold kidsB at this
        rw [h4] at this
        simp only [Bool.and_eq_true, Bool.or_eq_true, Bool.not_eq_true', beq_eq_false_iff_ne] at this
        rcases this.2 with h | h
        · simp at h
        · omega
      rw [dp_kid hm (i := i) (j := 0) hk]
      refine .inr ⟨vs, fun w hw => ?_, .inr rfl⟩
      obtain ⟨j, hj, rfl⟩ := List.mem_iff_getElem.1 hw
      obtain ⟨y, r, hy, e⟩ := hv j hj
      rw [e]
      have := valA_tx f hy
      have e1 := dp_kid hm (i := i) (j := 0) hk
      have e2 := dp_kid hm (i := i) (j := j) (by omega)
      rw [show dp t (ksT t (i : Int) 0) = dp t (ksT t (i : Int) j) by omega]
      exact this
theorem Fits_leaf {k n : Nat} {t : List Nod} {ps : List (List UInt8)} {ks : List Int} {kd : Int} (hk : 2 ≤ k) (hin : inner kd = false) : quiverref7_Fits.l0 idb k (n + 1) kd 0 t ps ks = some true := by
  rw [quiverref7_Fits.l0_eq, ref_IsLeaf_ok (by omega), hin]
  cases decide ((0 : Int) < (ps.length : Int)) <;> rfl
theorem Fits_ok : ∀ (f : Nat) {t : List Nod} {a : Int} {x : Arr} {row : Nat}, RowOf f t a x row → ∀ k, 100400 + f ≤ k → quiverref7_Fits.f idb k t a (valA f t a x row) = some true
  | 0, _, _, _, _, h, _, _ => absurd h.nd (Nat.not_lt_zero _)
  | f + 1, t, a, x, row, h, k, hk => by
    obtain ⟨hn, hB⟩ := arrB_buf h.may
    obtain ⟨hm, i, hi, rfl⟩ := nodeB_may hn
    have hT := row_is h
    have hlen := valA_row h.nd h.may h.lo h.hi
    generalize valA (f + 1) t (i : Int) x row = v at hT hlen
    obtain ⟨k, rfl⟩ : ∃ q, k = q + 1 := ⟨k - 1, by omega⟩
    obtain ⟨k, rfl⟩ : ∃ q, k = q + 1 := ⟨k - 1, by omega⟩
    have hd4 := dp_le hm hi
    have pre : ∀ {kd : Int} {ps : List (List UInt8)}, quiverref7_Parts.f idb (k + 1) v = some (kd, ps, 0) → ¬ kd < 0 → kd = knd t i →
        (kd = 2 → ∃ l, ps = [l] ∧ l.length ≤ 16) → (kd = 3 → ps.length ≤ 64) → (kd = 4 → ps.length = (kidsL t (i : Int)).length) →
        quiverref7_Fits.f idb (k + 1 + 1) t (i : Int) v = quiverref7_Fits.l0 idb (k + 1) (k + 1) kd 0 t ps (kidsL t (i : Int)) := by
      intro kd ps hp hn0 hkd h2 h3 h4
      rw [quiverref7_Fits.f_eq, ref_NodeMay_ok (by omega), bS, hn, Bool.not_true, cF, rd_get hi, bS, hp, bS]
      simp only
      rw [show ((0 : Int) != 0) = false from rfl, cF, dF hn0, cF, ref_Kids_ok (by omega), bS, knd_get hi]
      unfold kidsT
      rw [if_pos hn]
      simp only
      rw [show (kd != knd t i) = false by rw [hkd]; simp, Bool.not_false, cT]
      by_cases k2 : kd = 2
      · obtain ⟨l, rfl, hl⟩ := h2 k2
        rw [k2, show ((2 : Int) == 2) = true from rfl, cT, show (decide ((0 : Nat) ≤ 0) && decide ((0 : Int) < (([l] : List (List UInt8)).length : Int))) = true from rfl, cT, show ([l] : List (List UInt8))[0]? = some l from rfl, bS, dF (by omega), Bool.not_false, cT,
          show ((2 : Int) == 3) = false from rfl, cF, show ((2 : Int) == 4) = false from rfl, cF]
      · rw [show (kd == 2) = false by rw [beq_eq_false_iff_ne]; exact k2, cF]
        by_cases k3 : kd = 3
        · have := h3 k3
          rw [k3, show ((3 : Int) == 3) = true from rfl, cT, dF (by omega), Bool.not_false, cT, show ((3 : Int) == 4) = false from rfl, cF]
        · rw [show (kd == 3) = false by rw [beq_eq_false_iff_ne]; exact k3, cF]
          by_cases k4 : kd = 4
          · rw [k4, show ((4 : Int) == 4) = true from rfl, cT, show ((ps.length : Int) != ((kidsL t (i : Int)).length : Int)) = false by rw [h4 k4]; simp, cF]
          · rw [show (kd == 4) = false by rw [beq_eq_false_iff_ne]; exact k4, cF]
    cases hT with
    | null hnul =>
      rw [quiverref7_Fits.f_eq, ref_NodeMay_ok (by omega), bS, hn, Bool.not_true, cF, rd_get hi, bS, Parts_nil (by omega), bS]
      simp only
      rw [show ((0 : Int) != 0) = false from rfl, cF, dT (by omega), cT, nul_get hi, hnul]
    | kid y r hy => exact Fits_ok f hy _ (by omega)
    | int h0 z z0 z1 =>
      obtain ⟨ps, hp⟩ := Parts_int (k := k + 1) (by omega) z0 z1
      rw [pre hp (by omega) h0.symm (by omega) (by omega) (by omega)]
      exact Fits_leaf (by omega) rfl
    | bool h1 b =>
      rw [pre (Parts_bool (by omega) b) (by omega) h1.symm (by omega) (by omega) (by omega)]
      exact Fits_leaf (by omega) rfl
    | bytes h2 s hs =>
      rw [pre (Parts_bytes (by omega) (by omega)) (by omega) h2.symm (fun _ => ⟨s, rfl, hs⟩) (by omega) (by omega)]
      exact Fits_leaf (by omega) rfl
    | list h3 h1 vs hl hv =>
      have hd := dp_kid hm (i := i) (j := 0) (by omega)
      have hfl : vs.flatten.length ≤ 65534 := by unfold listT at hlen; simp only [List.length_append, List.length_cons, List.length_nil] at hlen; omega
      have hp := Parts_row (k := k + 1) (by omega) (d := dp t (ksT t (i : Int) 0)) (by omega) (vs := vs) (fun w hw => by obtain ⟨y, r, hy, rfl⟩ := hv w hw; exact valA_tx f hy) true hfl
      simp only [if_true] at hp
      rw [pre hp (by omega) h3.symm (by omega) (fun _ => hl) (by omega)]
      have hks0 := ksT_get (t := t) (a := (i : Int)) (j := 0) (by omega)
      refine loop_up (F := fun n j => quiverref7_Fits.l0 idb (k + 1) n 3 (j : Int) t vs (kidsL t (i : Int))) (N := vs.length) ?_ ?_ (k + 1) 0 (by omega) (by omega)
      · intro n j hj
        obtain ⟨y, r, hy, e⟩ := hv _ (List.getElem_mem hj)
        have e1 : (decide ((0 : Nat) ≤ 0) && decide ((0 : Int) < ((kidsL t (i : Int)).length : Int))) = true := by rw [h1]; decide
        rw [quiverref7_Fits.l0_eq, dT (by omega), cT, ref_IsLeaf_ok (by omega), bS, show (!(!inner 3)) = true from rfl, cT, e1, cT, hks0, bS, show ((3 : Int) == 4) = false from rfl, cF, dT (by omega)]
        simp only [Bool.and_self, cT, Int.toNat_natCast]
        rw [List.getElem?_eq_getElem hj, bS, e, Fits_ok f hy _ (by omega), bS, Bool.not_true, cF, wsucc (by omega)]
      · intro n
        rw [quiverref7_Fits.l0_eq, dF (by omega), cF]
    | struct h4 vs hl hv =>
      have hk0 : 0 < (kidsL t (i : Int)).length := by
        have := (((mayT_iff t).1 hm).2.2 i hi).1
        unfold kidsB at this
        rw [h4] at this
        simp only [Bool.and_eq_true, Bool.or_eq_true, Bool.not_eq_true', beq_eq_false_iff_ne] at this
        rcases this.2 with h | h
        · simp at h
        · omega
      have hd := dp_kid hm (i := i) (j := 0) hk0
      have hfl : vs.flatten.length ≤ 65534 := by unfold structT at hlen; simp only [List.length_append, List.length_cons, List.length_nil] at hlen; omega
      have hp := Parts_row (k := k + 1) (by omega) (d := dp t (ksT t (i : Int) 0)) (by omega) (vs := vs) (fun w hw => by
        obtain ⟨j, hj, rfl⟩ := List.mem_iff_getElem.1 hw
        obtain ⟨y, r, hy, e⟩ := hv j hj
        rw [e]
        have := valA_tx f hy
        have e2 := dp_kid hm (i := i) (j := j) (by omega)
        rw [show dp t (ksT t (i : Int) 0) = dp t (ksT t (i : Int) j) by omega]
        exact this) false hfl
      simp only [Bool.false_eq_true, if_false] at hp
      rw [pre hp (by omega) h4.symm (by omega) (by omega) (fun _ => hl)]
      have hkk := kidsU_length t (i : Int) t.length
      have htl := mayT_length hm
      have hkl : (kidsL t (i : Int)).length ≤ 8 := by unfold kidsL; omega
      have hks0 := ksT_get (t := t) (a := (i : Int)) (j := 0) (by omega)
      refine loop_up (F := fun n j => quiverref7_Fits.l0 idb (k + 1) n 4 (j : Int) t vs (kidsL t (i : Int))) (N := vs.length) ?_ ?_ (k + 1) 0 (by omega) (by omega)
      · intro n j hj
        obtain ⟨y, r, hy, e⟩ := hv j hj
        have hksj := ksT_get (t := t) (a := (i : Int)) (j := j) (by omega)
        have e1 : (decide ((0 : Nat) ≤ 0) && decide ((0 : Int) < ((kidsL t (i : Int)).length : Int))) = true := by rw [dT (show (0 : Nat) ≤ 0 by omega), dT (by omega)]; rfl
        rw [quiverref7_Fits.l0_eq, dT (by omega), cT, ref_IsLeaf_ok (by omega), bS, show (!(!inner 4)) = true from rfl, cT, e1, cT, hks0, bS, show ((4 : Int) == 4) = true from rfl, cT, dT (show (j : Int) < ((kidsL t (i : Int)).length : Int) by omega), dT (show (0 : Int) ≤ (j : Int) by omega)]
        simp only [Bool.and_self, cT, Int.toNat_natCast]
        rw [hksj, bS, List.getElem?_eq_getElem hj, bS, e, Fits_ok f hy _ (by omega), bS, Bool.not_true, cF, wsucc (by omega)]
      · intro n
        rw [quiverref7_Fits.l0_eq, dF (by omega), cF]

end Go.Proofs.YtppmpfddcohkjaaGreatDoorP
