/- Schemas: what the functions of the package schema, and the document's, answer; no condition but the sizes that a machine has. -/
import Derived.Test.YtgedegmcbkligaaPType2
namespace Go.Proofs.YtgedegmcbkligaaP
open Go Go.Proofs.YtgedegmcbkligaaA

theorem bar_eq (R : Type) (x : Option R) : idb R x = x := by cases x <;> rfl

/-! ### A type's text -/
def nb (n : Nod) : List Int := [IntKind.u8.wrap n.kind, IntKind.u8.wrap (IntKind.i64.wrap (n.parent + 1)), if n.null then 1 else 0]
def bodyT (l : List Nod) : List Int := l.flatMap nb
def textT (t : List Nod) : List UInt8 := strOfBytes (IntKind.u8.wrap (t.length : Int) :: bodyT t)
def putS (t : List Nod) : List UInt8 × Int := if mayT t then (textT t, 0) else ([], 600)
theorem bodyT_append (l m : List Nod) : bodyT (l ++ m) = bodyT l ++ bodyT m := by simp [bodyT]
theorem bodyT_cons (n : Nod) (l : List Nod) : bodyT (n :: l) = nb n ++ bodyT l := by simp [bodyT]
theorem bodyT_length : ∀ l : List Nod, (bodyT l).length = 3 * l.length
  | [] => rfl
  | n :: l => by rw [bodyT_cons, List.length_append, bodyT_length l]; simp [nb]; omega

theorem schema_Put_l0 (t : List Nod) (ht : t.length ≤ 8) (k : Nat) : ∀ (j i : Nat), i + j = t.length → ∀ n, j + 1 ≤ n →
    schema_Put.l0 idb k n t (t.length : Int) (i : Int) (IntKind.u8.wrap (t.length : Int) :: bodyT (t.take i)) = some (textT t, 0)
  | 0, i, hij, n, hn => by
    obtain ⟨n, rfl⟩ : ∃ m, n = m + 1 := ⟨n - 1, by omega⟩
    rw [schema_Put.l0_eq]
    have h1 : ¬ ((i : Int) < (t.length : Int)) := by omega
    rw [List.take_of_length_le (by omega)]
    simp only [h1, decide_false, cond, textT]
  | j + 1, i, hij, n, hn => by
    obtain ⟨n, rfl⟩ : ∃ m, n = m + 1 := ⟨n - 1, by omega⟩
    rw [schema_Put.l0_eq]
    have hlt : i < t.length := by omega
    have h1 : ((i : Int) < (t.length : Int)) := by omega
    have ih := schema_Put_l0 t ht k j (i + 1) (by omega) n (by omega)
    rw [List.take_succ_eq_append_getElem hlt, bodyT_append] at ih
    have hb : (IntKind.u8.wrap (t.length : Int) :: (bodyT (t.take i) ++ bodyT [t[i]])) = (IntKind.u8.wrap (t.length : Int) :: bodyT (t.take i)) ++ nb t[i] := by simp [bodyT]
    rw [hb] at ih
    have hl : ((IntKind.u8.wrap (t.length : Int) :: bodyT (t.take i)).length + 3) * 1 ≤ 140737488355328 := by
      rw [List.length_cons, bodyT_length, List.length_take]; omega
    have hj : ∀ (z : Bool) (c : Int), t[i].null = z → c = (if z then 1 else 0) → schema_Put.j10 idb k n c t (t.length : Int) (i : Int) (IntKind.u8.wrap (t.length : Int) :: bodyT (t.take i)) t[i].kind t[i].parent z = some (textT t, 0) := by
      intro z c hz hc
      rw [schema_Put.j10_eq]
      have hd : decide (((IntKind.u8.wrap (t.length : Int) :: bodyT (t.take i)).length + [IntKind.u8.wrap t[i].kind, IntKind.u8.wrap (IntKind.i64.wrap (t[i].parent + 1)), c].length) * 1 ≤ 140737488355328) = true := by
        apply decide_eq_true
        simp only [List.length_cons, List.length_nil] at hl ⊢
        omega
      simp only [hd, cond, wsucc (show (i : Int) ≤ _ by omega)]
      have : nb t[i] = [IntKind.u8.wrap t[i].kind, IntKind.u8.wrap (IntKind.i64.wrap (t[i].parent + 1)), c] := by rw [hc, ← hz]; rfl
      rw [← this]; exact ih
    simp only [h1, decide_true, cond, rd_get hlt, Option.bind_some, bar_eq]
    cases hz : t[i].null with
    | true => exact hj true 1 hz rfl
    | false => exact hj false 0 hz rfl
theorem mayT_length {t : List Nod} (h : mayT t = true) : 1 ≤ t.length ∧ t.length ≤ 8 := ((mayT_iff t).1 h).1
theorem schema_Put_ok {k : Nat} (hk : 22 ≤ k) (t : List Nod) : schema_Put.f idb k t = some (putS t) := by
  obtain ⟨k, rfl⟩ : ∃ m, k = m + 1 := ⟨k - 1, by omega⟩
  rw [schema_Put.f_eq, types_May_ok (by omega)]
  unfold putS
  cases hm : mayT t with
  | false => simp
  | true =>
    have hl := mayT_length hm
    have := schema_Put_l0 t hl.2 k t.length 0 (by omega) k (by omega)
    simp only [Option.bind_some, Bool.not_true, cond, if_true]
    exact this
theorem ref_Put_l0 (t : List Nod) (ht : t.length ≤ 8) (k : Nat) : ∀ (j i : Nat), i + j = t.length → ∀ n, j + 1 ≤ n →
    quiverref1_PutSchema.l0 idb k n (i : Int) t (IntKind.u8.wrap (t.length : Int) :: bodyT (t.take i)) = some (textT t, 0)
  | 0, i, hij, n, hn => by
    obtain ⟨n, rfl⟩ : ∃ m, n = m + 1 := ⟨n - 1, by omega⟩
    rw [quiverref1_PutSchema.l0_eq]
    have h1 : ¬ ((i : Int) < (t.length : Int)) := by omega
    rw [List.take_of_length_le (by omega)]
    simp only [h1, decide_false, cond, textT]
  | j + 1, i, hij, n, hn => by
    obtain ⟨n, rfl⟩ : ∃ m, n = m + 1 := ⟨n - 1, by omega⟩
    rw [quiverref1_PutSchema.l0_eq]
    have hlt : i < t.length := by omega
    have h1 : ((i : Int) < (t.length : Int)) := by omega
    have ih := ref_Put_l0 t ht k j (i + 1) (by omega) n (by omega)
    rw [List.take_succ_eq_append_getElem hlt, bodyT_append] at ih
    have hb : (IntKind.u8.wrap (t.length : Int) :: (bodyT (t.take i) ++ bodyT [t[i]])) = (IntKind.u8.wrap (t.length : Int) :: bodyT (t.take i)) ++ nb t[i] := by simp [bodyT]
    rw [hb] at ih
    have hl : ((IntKind.u8.wrap (t.length : Int) :: bodyT (t.take i)).length + 3) * 1 ≤ 140737488355328 := by
      rw [List.length_cons, bodyT_length, List.length_take]; omega
    have hj : ∀ (z : Bool) (c : Int), t[i].null = z → c = (if z then 1 else 0) → quiverref1_PutSchema.j11 idb k n (i : Int) c t (IntKind.u8.wrap (t.length : Int) :: bodyT (t.take i)) t[i].kind t[i].parent z = some (textT t, 0) := by
      intro z c hz hc
      rw [quiverref1_PutSchema.j11_eq]
      have hd : decide (((IntKind.u8.wrap (t.length : Int) :: bodyT (t.take i)).length + [IntKind.u8.wrap t[i].kind, IntKind.u8.wrap (IntKind.i64.wrap (t[i].parent + 1)), c].length) * 1 ≤ 140737488355328) = true := by
        apply decide_eq_true
        simp only [List.length_cons, List.length_nil] at hl ⊢
        omega
      simp only [hd, cond, wsucc (show (i : Int) ≤ _ by omega)]
      have : nb t[i] = [IntKind.u8.wrap t[i].kind, IntKind.u8.wrap (IntKind.i64.wrap (t[i].parent + 1)), c] := by rw [hc, ← hz]; rfl
      rw [← this]; exact ih
    simp only [h1, decide_true, cond, rd_get hlt, Option.bind_some, bar_eq]
    cases hz : t[i].null with
    | true => exact hj true 1 hz rfl
    | false => exact hj false 0 hz rfl
theorem ref_PutSchema_ok {k : Nat} (hk : 22 ≤ k) (t : List Nod) : quiverref1_PutSchema.f idb k t = some (putS t) := by
  obtain ⟨k, rfl⟩ : ∃ m, k = m + 1 := ⟨k - 1, by omega⟩
  rw [quiverref1_PutSchema.f_eq, ref_TypeMay_ok (by omega)]
  unfold putS
  cases hm : mayT t with
  | false => simp
  | true =>
    have hl := mayT_length hm
    have := ref_Put_l0 t hl.2 k t.length 0 (by omega) k (by omega)
    simp only [Option.bind_some, Bool.not_true, cond, if_true]
    exact this

/-! ### A type out of a text -/
def pn (a b c : UInt8) : Nod := ⟨(a.toNat : Int), (b.toNat : Int) - 1, (c.toNat : Int) == 1⟩
def parse : Nat → List UInt8 → List Nod
  | f + 1, a :: b :: c :: l => pn a b c :: parse f l
  | _, _ => []
def finS (s : List UInt8) (out : List Nod) : List Nod × Int := if mayT out = true ∧ textT out = s then (out, 0) else ([], 600)
def getS (s : List UInt8) : List Nod × Int := finS s (parse 9 s.tail)

theorem rd_cat {a l : List UInt8} {x : UInt8} {i : Nat} (h : l[i]? = some x) {p : Int} (hp : p = ((a.length + i : Nat) : Int)) : rd (a ++ l) p = some x := by
  subst hp
  unfold rd
  have : decide ((0 : Int) ≤ ((a.length + i : Nat) : Int)) = true := by simp; omega
  rw [this]
  simp only [cond, Int.toNat_natCast]
  rw [List.getElem?_append_right (by omega), show a.length + i - a.length = i by omega]
  exact h
theorem pn_eq (a b c : UInt8) : (Nod.mk (IntKind.i64.wrap (a.toNat : Int)) (IntKind.i64.wrap ((IntKind.i64.wrap (b.toNat : Int)) - 1)) ((c.toNat : Int) == 1)) = pn a b c := by
  have ha : a.toNat < 256 := a.toNat_lt
  have hb : b.toNat < 256 := b.toNat_lt
  rw [wi64 (a.toNat : Int) (by omega), wi64 (b.toNat : Int) (by omega), wi64 _ (by omega)]; rfl
/-- What stands at the end of both readers. -/
theorem fin_impl {k : Nat} (hk : 22 ≤ k) (s : List UInt8) (out : List Nod) :
    ((schema_Put.f idb k out).bind fun r_4 => bif (!(r_4.2 != 0)) then bif (r_4.1 != s) then some (([] : List Nod), (600 : Int)) else some (out, 0) else some (([] : List Nod), 600)) = some (finS s out) := by
  rw [schema_Put_ok hk]
  unfold putS finS
  cases hm : mayT out with
  | false => simp
  | true =>
    by_cases he : textT out = s
    · simp [he]
    · have : (textT out != s) = true := by simpa using he
      simp [he, this]
theorem fin_ref {k : Nat} (hk : 22 ≤ k) (s : List UInt8) (out : List Nod) :
    ((quiverref1_PutSchema.f idb k out).bind fun r_4 => bif (!(r_4.2 != 0)) then bif (r_4.1 != s) then some (([] : List Nod), (600 : Int)) else some (out, 0) else some (([] : List Nod), 600)) = some (finS s out) := by
  rw [ref_PutSchema_ok hk]
  unfold putS finS
  cases hm : mayT out with
  | false => simp
  | true =>
    by_cases he : textT out = s
    · simp [he]
    · have : (textT out != s) = true := by simpa using he
      simp [he, this]
theorem schema_Get_l0 {k : Nat} (hk : 22 ≤ k) : ∀ (f : Nat) (p l : List UInt8) (out : List Nod) (n : Nat), ((p ++ l).length : Int) ≤ 9223372036854775000 → out.length + f = 9 → f + 1 ≤ n →
    schema_Get.l0 idb k n (p ++ l) (p.length : Int) out = some (finS (p ++ l) (out ++ parse f l))
  | 0, p, l, out, n, hs, ho, hn => by
    obtain ⟨n, rfl⟩ : ∃ m, n = m + 1 := ⟨n - 1, by omega⟩
    rw [schema_Get.l0_eq]
    have h1 : ¬ ((out.length : Int) ≤ 8) := by omega
    simp only [h1, decide_false, cond]
    have hf := fin_impl hk (p ++ l) out
    have e : out ++ parse 0 l = out := by simp [parse]
    rw [e]
    cases decide ((IntKind.i64.wrap ((p.length : Int) + 3)) ≤ ((p ++ l).length : Int)) <;> exact hf
  | f + 1, p, l, out, n, hs, ho, hn => by
    obtain ⟨n, rfl⟩ : ∃ m, n = m + 1 := ⟨n - 1, by omega⟩
    rw [schema_Get.l0_eq]
    have hlen : (p ++ l).length = p.length + l.length := List.length_append
    have e3 : IntKind.i64.wrap ((p.length : Int) + 3) = (p.length : Int) + 3 := wi64 _ (by omega)
    have e1 : IntKind.i64.wrap ((p.length : Int) + 1) = (p.length : Int) + 1 := wi64 _ (by omega)
    have e2 : IntKind.i64.wrap ((p.length : Int) + 2) = (p.length : Int) + 2 := wi64 _ (by omega)
    have h8 : ((out.length : Int) ≤ 8) := by omega
    have stop : l.length < 3 → ((schema_Put.f idb k out).bind fun r_5 => bif (!(r_5.2 != 0)) then bif (r_5.1 != (p ++ l)) then some (([] : List Nod), (600 : Int)) else some (out, 0) else some (([] : List Nod), 600)) = some (finS (p ++ l) (out ++ parse (f + 1) l)) := by
      intro h
      have e : parse (f + 1) l = [] := by
        match l, h with
        | [], _ => rfl
        | [_], _ => rfl
        | [_, _], _ => rfl
      rw [e, List.append_nil]
      exact fin_impl hk (p ++ l) out
    rw [e3, e1, e2]
    by_cases h3 : l.length < 3
    · have hc : ¬ ((p.length : Int) + 3 ≤ ((p ++ l).length : Int)) := by omega
      simp only [hc, decide_false, cond]
      exact stop h3
    · match l, h3 with
      | a :: b :: c :: l, _ =>
        have hc : ((p.length : Int) + 3 ≤ ((p ++ a :: b :: c :: l).length : Int)) := by simp; omega
        have r0 : rd (p ++ a :: b :: c :: l) (p.length : Int) = some a := rd_cat (i := 0) rfl (by simp)
        have r1 : rd (p ++ a :: b :: c :: l) ((p.length : Int) + 1) = some b := rd_cat (i := 1) rfl (by simp)
        have r2 : rd (p ++ a :: b :: c :: l) ((p.length : Int) + 2) = some c := rd_cat (i := 2) rfl (by simp)
        have hd : decide ((out.length + [pn a b c].length) * 24 ≤ 140737488355328) = true := by simp; omega
        simp only [hc, h8, decide_true, cond, r0, r1, r2, Option.bind_some, pn_eq, hd]
        have ih := schema_Get_l0 hk f (p ++ [a, b, c]) l (out ++ [pn a b c]) n (by simpa using hs) (by simp; omega) (by omega)
        have ea : p ++ [a, b, c] ++ l = p ++ a :: b :: c :: l := by simp
        have el : ((p ++ [a, b, c]).length : Int) = (p.length : Int) + 3 := by simp
        rw [ea, el] at ih
        have ep : out ++ [pn a b c] ++ parse f l = out ++ parse (f + 1) (a :: b :: c :: l) := by simp [parse]
        rw [ep] at ih
        exact ih
      | [], h => exact absurd (by simp) h
      | [_], h => exact absurd (by simp) h
      | [_, _], h => exact absurd (by simp) h
theorem schema_Get_ok {k : Nat} (hk : 30 ≤ k) (s : List UInt8) (hs : (s.length : Int) ≤ 9223372036854775000) : schema_Get.f idb k s = some (getS s) := by
  obtain ⟨k, rfl⟩ : ∃ m, k = m + 1 := ⟨k - 1, by omega⟩
  rw [schema_Get.f_eq]
  cases s with
  | nil =>
    obtain ⟨k', rfl⟩ : ∃ m, k = m + 1 := ⟨k - 1, by omega⟩
    rw [schema_Get.l0_eq]
    have h1 : ¬ (IntKind.i64.wrap (1 + 3) ≤ (([] : List UInt8).length : Int)) := by rw [wi64 _ (by omega)]; simp
    simp only [h1, decide_false, cond]
    have := fin_impl (k := k' + 1) (by omega) [] []
    have e : finS [] [] = getS [] := rfl
    rw [e] at this
    exact this
  | cons a l =>
    have := schema_Get_l0 (k := k) (by omega) 9 [a] l [] k (by simpa using hs) rfl (by omega)
    simpa [getS] using this

theorem parse_length : ∀ (f : Nat) (l : List UInt8), (parse f l).length = min f (l.length / 3)
  | 0, l => by simp [parse]
  | f + 1, [] => by simp [parse]
  | f + 1, [_] => by simp [parse]
  | f + 1, [_, _] => by simp [parse]
  | f + 1, a :: b :: c :: l => by
    simp only [parse, List.length_cons, parse_length f l]
    omega
theorem parse_more : ∀ (f g : Nat) (l : List UInt8), l.length / 3 ≤ f → l.length / 3 ≤ g → parse f l = parse g l
  | 0, 0, _, _, _ => rfl
  | 0, g + 1, [], _, _ => rfl
  | 0, g + 1, [_], _, _ => rfl
  | 0, g + 1, [_, _], _, _ => rfl
  | 0, g + 1, a :: b :: c :: l, h, _ => by simp at h; omega
  | f + 1, 0, [], _, _ => rfl
  | f + 1, 0, [_], _, _ => rfl
  | f + 1, 0, [_, _], _, _ => rfl
  | f + 1, 0, a :: b :: c :: l, _, h => by simp at h; omega
  | f + 1, g + 1, [], _, _ => rfl
  | f + 1, g + 1, [_], _, _ => rfl
  | f + 1, g + 1, [_, _], _, _ => rfl
  | f + 1, g + 1, a :: b :: c :: l, h1, h2 => by
    simp only [parse]
    rw [parse_more f g l (by simp at h1; omega) (by simp at h2; omega)]
theorem ref_Get_l0 {k : Nat} (hk : 22 ≤ k) : ∀ (f : Nat) (p l : List UInt8) (out : List Nod) (n : Nat), ((p ++ l).length : Int) ≤ 100000 → l.length = 3 * f → out.length + f ≤ 10000 → f + 1 ≤ n →
    quiverref1_GetSchema.l0 idb k n (p ++ l) (p.length : Int) out = some (finS (p ++ l) (out ++ parse f l))
  | 0, p, l, out, n, hs, hl, ho, hn => by
    obtain ⟨n, rfl⟩ : ∃ m, n = m + 1 := ⟨n - 1, by omega⟩
    rw [quiverref1_GetSchema.l0_eq]
    have : l = [] := List.eq_nil_of_length_eq_zero (by omega)
    subst this
    have h1 : ¬ ((p.length : Int) < ((p ++ ([] : List UInt8)).length : Int)) := by simp
    simp only [h1, decide_false, cond]
    have hf := fin_ref hk (p ++ []) out
    have e : out ++ parse 0 [] = out := by simp [parse]
    rw [e]
    exact hf
  | f + 1, p, l, out, n, hs, hl, ho, hn => by
    obtain ⟨n, rfl⟩ : ∃ m, n = m + 1 := ⟨n - 1, by omega⟩
    rw [quiverref1_GetSchema.l0_eq]
    match l, hl with
    | a :: b :: c :: l, hl =>
      have hlen : (p ++ a :: b :: c :: l).length = p.length + (l.length + 3) := by simp
      rw [hlen] at hs
      have e3 : IntKind.i64.wrap ((p.length : Int) + 3) = (p.length : Int) + 3 := wi64 _ (by omega)
      have e1 : IntKind.i64.wrap ((p.length : Int) + 1) = (p.length : Int) + 1 := wi64 _ (by omega)
      have e2 : IntKind.i64.wrap ((p.length : Int) + 2) = (p.length : Int) + 2 := wi64 _ (by omega)
      have hc : ((p.length : Int) < ((p ++ a :: b :: c :: l).length : Int)) := by rw [hlen]; omega
      have r0 : rd (p ++ a :: b :: c :: l) (p.length : Int) = some a := rd_cat (i := 0) rfl (by simp)
      have r1 : rd (p ++ a :: b :: c :: l) ((p.length : Int) + 1) = some b := rd_cat (i := 1) rfl (by simp)
      have r2 : rd (p ++ a :: b :: c :: l) ((p.length : Int) + 2) = some c := rd_cat (i := 2) rfl (by simp)
      have hd : decide ((out.length + [pn a b c].length) * 24 ≤ 140737488355328) = true := by simp; omega
      rw [e3, e1, e2]
      simp only [hc, decide_true, cond, r0, r1, r2, Option.bind_some, pn_eq, hd]
      have ih := ref_Get_l0 hk f (p ++ [a, b, c]) l (out ++ [pn a b c]) n (by simp; omega) (by simp at hl; omega) (by simp; omega) (by omega)
      have ea : p ++ [a, b, c] ++ l = p ++ a :: b :: c :: l := by simp
      have el : ((p ++ [a, b, c]).length : Int) = (p.length : Int) + 3 := by simp
      rw [ea, el] at ih
      have ep : out ++ [pn a b c] ++ parse f l = out ++ parse (f + 1) (a :: b :: c :: l) := by simp [parse]
      rw [ep] at ih
      exact ih
    | [], hl => simp at hl
    | [_], hl => simp at hl; omega
    | [_, _], hl => simp at hl; omega
theorem textT_length (t : List Nod) : (textT t).length = 1 + 3 * t.length := by unfold textT; rw [strOfBytes_length, List.length_cons, bodyT_length]; omega
theorem textT_cons (t : List Nod) : textT t = UInt8.ofNat (IntKind.u8.wrap (t.length : Int)).toNat :: strOfBytes (bodyT t) := rfl
theorem textT_head {t : List Nod} (h : mayT t = true) {a : UInt8} {l : List UInt8} (he : textT t = a :: l) : a.toNat = t.length ∧ l.length = 3 * t.length := by
  have hl := mayT_length h
  have hlen := textT_length t
  rw [he, List.length_cons] at hlen
  rw [textT_cons] at he
  have ha := (List.cons.inj he).1
  refine ⟨?_, by omega⟩
  rw [← ha, wu8, ofNat_toNat (by omega)]
  omega
theorem ref_GetSchema_ok {k : Nat} (hk : 400 ≤ k) (s : List UInt8) (hs : (s.length : Int) ≤ 9223372036854775000) : quiverref1_GetSchema.f idb k s = some (getS s) := by
  obtain ⟨k, rfl⟩ : ∃ m, k = m + 1 := ⟨k - 1, by omega⟩
  rw [quiverref1_GetSchema.f_eq]
  cases s with
  | nil =>
    have hm : mayT [] = false := by decide +kernel
    have hb : (!(([] : List UInt8) == [])) = false := rfl
    simp only [hb, cond, getS, List.tail_nil, parse, finS, hm]
    rfl
  | cons a l =>
    have hb : (!((a :: l) == ([] : List UInt8))) = true := rfl
    have ha : a.toNat < 256 := a.toNat_lt
    have r0 : rd (a :: l) 0 = some a := rfl
    have e1 : IntKind.i64.wrap (1 + IntKind.i64.wrap (3 * IntKind.i64.wrap (a.toNat : Int))) = 1 + 3 * (a.toNat : Int) := by
      rw [wi64 (a.toNat : Int) (by omega), wi64 (3 * (a.toNat : Int)) (by omega), wi64 _ (by omega)]
    simp only [hb, cond, r0, Option.bind_some, e1]
    by_cases hl : ((a :: l).length : Int) = 1 + 3 * (a.toNat : Int)
    · have hc : (((a :: l).length : Int) != 1 + 3 * (a.toNat : Int)) = false := by rw [hl]; simp
      have hl3 : l.length = 3 * a.toNat := by simp at hl; omega
      have := ref_Get_l0 (k := k) (by omega) a.toNat [a] l [] k (by simp; omega) hl3 (by simp; omega) (by omega)
      simp only [hc]
      have e2 : (([a] : List UInt8).length : Int) = 1 := rfl
      rw [e2] at this
      rw [show a :: l = [a] ++ l from rfl, this]
      unfold getS
      by_cases h9 : a.toNat ≤ 9
      · rw [parse_more a.toNat 9 l (by omega) (by omega)]; rfl
      · have h1 : mayT (parse a.toNat l) = false := by
          have h8 := parse_length a.toNat l
          cases hm : mayT (parse a.toNat l) with
          | false => rfl
          | true => have := mayT_length hm; omega
        have h2 : mayT (parse 9 l) = false := by
          have h8 := parse_length 9 l
          cases hm : mayT (parse 9 l) with
          | false => rfl
          | true => have := mayT_length hm; omega
        have h2' : mayT (parse 9 ([a] ++ l).tail) = false := h2
        simp only [finS, List.nil_append, h1, h2', Bool.false_eq_true, false_and, if_false]
    · have hc : (((a :: l).length : Int) != 1 + 3 * (a.toNat : Int)) = true := by simpa using hl
      simp only [hc]
      unfold getS finS
      rw [if_neg]
      rintro ⟨hm, he⟩
      obtain ⟨q1, q2⟩ := textT_head hm he
      rw [List.length_cons] at hl
      omega

end Go.Proofs.YtgedegmcbkligaaP
