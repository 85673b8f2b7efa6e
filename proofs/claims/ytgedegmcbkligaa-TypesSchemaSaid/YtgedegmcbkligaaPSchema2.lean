/- The laws Schemas, SchemaBack, SchemaUnlike and SchemaCut, as the machine answers them; no condition but the sizes that a machine has. -/
import Derived.Test.YtgedegmcbkligaaPSchema
namespace Go.Proofs.YtgedegmcbkligaaP
open Go Go.Proofs.YtgedegmcbkligaaA

theorem nodeEq (x y : Nod) : ((x.kind == y.kind) && ((x.parent == y.parent) && ((x.null == y.null) && true))) = decide (x = y) := by
  obtain ⟨a, b, c⟩ := x
  obtain ⟨d, e, f⟩ := y
  apply Bool.eq_iff_iff.2
  simp
theorem SameNodes_l0 (a b : List Nod) (hl : a.length = b.length) (ha : a.length ≤ 17592186044415) (k : Nat) : ∀ (j i : Nat), i + j = a.length → (∀ q, q < i → a[q]? = b[q]?) → ∀ n, j + 1 ≤ n → quiverlaw0_SameNodes.l0 idb k n a b (i : Int) = some (decide (a = b))
  | 0, i, hij, hp, n, hn => by
    obtain ⟨n, rfl⟩ : ∃ m, n = m + 1 := ⟨n - 1, by omega⟩
    rw [quiverlaw0_SameNodes.l0_eq]
    have h1 : ¬ ((i : Int) < (a.length : Int)) := by omega
    have : a = b := by
      apply List.ext_getElem?
      intro q
      by_cases hq : q < i
      · exact hp q hq
      · rw [List.getElem?_eq_none (by omega), List.getElem?_eq_none (by omega)]
    simp only [h1, decide_false, cond]
    rw [decide_eq_true this]
  | j + 1, i, hij, hp, n, hn => by
    obtain ⟨n, rfl⟩ : ∃ m, n = m + 1 := ⟨n - 1, by omega⟩
    rw [quiverlaw0_SameNodes.l0_eq]
    have hlt : i < a.length := by omega
    have hlt' : i < b.length := by omega
    have h1 : ((i : Int) < (a.length : Int)) := by omega
    simp only [h1, decide_true, cond, rd_get hlt, rd_get hlt', Option.bind_some, nodeEq, wsucc (show (i : Int) ≤ _ by omega)]
    by_cases he : a[i] = b[i]
    · have ih := SameNodes_l0 a b hl ha k j (i + 1) (by omega) (fun q hq => by
        by_cases e : q = i
        · subst e; rw [List.getElem?_eq_getElem hlt, List.getElem?_eq_getElem hlt', he]
        · exact hp q (by omega)) n (by omega)
      simp only [he, decide_true, Bool.not_true]
      exact ih
    · have : ¬ a = b := by
        intro e
        subst e
        exact he rfl
      simp only [he, this, decide_false, Bool.not_false]
theorem SameType_ok {k : Nat} (a b : List Nod) (ha : a.length ≤ 17592186044415) (hk : a.length + 4 ≤ k) : quiverlaw0_SameType.f idb k a b = some (decide (a = b)) := by
  obtain ⟨k, rfl⟩ : ∃ m, k = m + 2 := ⟨k - 2, by omega⟩
  rw [quiverlaw0_SameType.f_eq, quiverlaw0_SameNodes.f_eq]
  by_cases hl : a.length = b.length
  · have hb : ((a.length : Int) != (b.length : Int)) = false := by simp [hl]
    have := SameNodes_l0 a b hl ha k a.length 0 (by omega) (fun q hq => absurd hq (Nat.not_lt_zero q)) k (by omega)
    simp only [hb, cond]
    rw [show ((0 : Nat) : Int) = 0 from rfl] at this
    rw [this]; rfl
  · have hb : ((a.length : Int) != (b.length : Int)) = true := by
      have : ¬ ((a.length : Int) = (b.length : Int)) := by omega
      simpa using this
    have : ¬ a = b := fun e => hl (by rw [e])
    simp only [hb, cond, Option.bind_some, this, decide_false]
theorem CopyType_ok {k : Nat} (hk : 1 ≤ k) (a : List Nod) (ha : (a.length : Int) * 24 ≤ 140737488351232) : quiverlaw0_CopyType.f idb k a = some a := by
  obtain ⟨k, rfl⟩ : ∃ m, k = m + 1 := ⟨k - 1, by omega⟩
  rw [quiverlaw0_CopyType.f_eq]
  have : (([] : List Nod).length + a.length) * 24 ≤ 140737488355328 := by simp; omega
  simp only [this, decide_true, cond, List.nil_append]
theorem SpoilNodes_l0 (k : Nat) : ∀ (j i : Nat) (a : List Nod), i + j = a.length → a.length ≤ 17592186044415 → ∀ n, j + 1 ≤ n → quiverlaw0_SpoilNodes.l0 idb k n (i : Int) a = some ()
  | 0, i, a, hij, ha, n, hn => by
    obtain ⟨n, rfl⟩ : ∃ m, n = m + 1 := ⟨n - 1, by omega⟩
    rw [quiverlaw0_SpoilNodes.l0_eq]
    have h1 : ¬ ((i : Int) < (a.length : Int)) := by omega
    simp only [h1, decide_false, cond]
  | j + 1, i, a, hij, ha, n, hn => by
    obtain ⟨n, rfl⟩ : ∃ m, n = m + 1 := ⟨n - 1, by omega⟩
    rw [quiverlaw0_SpoilNodes.l0_eq]
    have hlt : i < a.length := by omega
    have h1 : ((i : Int) < (a.length : Int)) := by omega
    have h0 : (0 : Int) ≤ (i : Int) := by omega
    have hg : a[((i : Int)).toNat]? = some a[i] := by rw [Int.toNat_natCast]; exact List.getElem?_eq_getElem hlt
    simp only [h1, h0, decide_true, Bool.and_self, cond, hg, Option.bind_some, wsucc (show (i : Int) ≤ _ by omega)]
    exact SpoilNodes_l0 k j (i + 1) _ (by simp; omega) (by simp; omega) n (by omega)
theorem SpoilType_ok {k : Nat} (a : List Nod) (ha : a.length ≤ 1000) (hk : a.length + 4 ≤ k) : quiverlaw0_SpoilType.f idb k a = some () := by
  obtain ⟨k, rfl⟩ : ∃ m, k = m + 2 := ⟨k - 2, by omega⟩
  rw [quiverlaw0_SpoilType.f_eq, quiverlaw0_SpoilNodes.f_eq]
  have := SpoilNodes_l0 k a.length 0 a (by omega) (by omega) k (by omega)
  rw [show ((0 : Nat) : Int) = 0 from rfl] at this
  rw [this]; rfl
theorem awake6 (m : Nat) : quiverlaw6_awake.f idb (m + 60) = some true := by kernel_rfl
theorem finS_length (s : List UInt8) (out : List Nod) : (finS s out).1.length ≤ 8 := by
  unfold finS
  split
  · rename_i h; exact (mayT_length h.1).2
  · simp
theorem getS_length (s : List UInt8) : (getS s).1.length ≤ 8 := finS_length _ _

theorem pure_Schemas (t : List Nod) (s : List UInt8) (ht : (t.length : Int) * 24 ≤ 140737488351232) (hs : (s.length : Int) ≤ 140737488351232) : ∃ k, quiverlaw6_Schemas.f idb k t s = some true := by
  refine ⟨t.length + 1000 + 1, ?_⟩
  rw [quiverlaw6_Schemas.f_eq]
  have hl := getS_length s
  simp only [CopyType_ok (show 1 ≤ t.length + 1000 by omega) t ht, schema_Put_ok (show 22 ≤ t.length + 1000 by omega), ref_PutSchema_ok (show 22 ≤ t.length + 1000 by omega), schema_Get_ok (show 30 ≤ t.length + 1000 by omega) s (by omega),
    ref_GetSchema_ok (show 400 ≤ t.length + 1000 by omega) s (by omega), Option.bind_some, bne_self_eq_false, Bool.not_false, cond, law0_Num (show 1 ≤ t.length + 1000 by omega), SameType_ok (getS s).1 (getS s).1 (by omega) (show (getS s).1.length + 4 ≤ t.length + 1000 by omega),
    SameType_ok t t (by omega) (show t.length + 4 ≤ t.length + 1000 by omega), SpoilType_ok (getS s).1 (by omega) (show (getS s).1.length + 4 ≤ t.length + 1000 by omega), decide_true, Bool.not_true]
  rw [show t.length + 1000 = (t.length + 940) + 60 by omega, awake6]; rfl

/-! ### There and back -/
theorem wb (x : Int) (h : 0 ≤ x ∧ x < 256) : ((UInt8.ofNat (IntKind.u8.wrap x).toNat).toNat : Int) = x := by rw [byte_val]; omega
theorem par_bounds {t : List Nod} (h : mayT t = true) {i : Nat} (hi : i < t.length) : -1 ≤ t[i].parent ∧ t[i].parent ≤ 7 ∧ 0 ≤ t[i].kind ∧ t[i].kind ≤ 4 := by
  have hl := mayT_length h
  have hst := (mayT_stands h).up hi
  have hk := (((mayT_iff t).1 h).2.1 i hi).1
  rw [← par_get hi] at hst
  unfold kindB at hk
  rw [← knd_get hi] at hk
  simp only [Bool.and_eq_true, decide_eq_true_eq] at hk
  omega
theorem parse_body : ∀ (l : List Nod) (f : Nat), l.length ≤ f → (∀ n ∈ l, -1 ≤ n.parent ∧ n.parent ≤ 7 ∧ 0 ≤ n.kind ∧ n.kind ≤ 4) → parse f (strOfBytes (bodyT l)) = l
  | [], 0, _, _ => rfl
  | [], f + 1, _, _ => rfl
  | n :: l, 0, h, _ => by simp at h
  | n :: l, f + 1, h, hb => by
    obtain ⟨b1, b2, b3, b4⟩ := hb n List.mem_cons_self
    have e : strOfBytes (bodyT (n :: l)) = UInt8.ofNat (IntKind.u8.wrap n.kind).toNat :: UInt8.ofNat (IntKind.u8.wrap (IntKind.i64.wrap (n.parent + 1))).toNat :: UInt8.ofNat (if n.null then (1 : Int) else 0).toNat :: strOfBytes (bodyT l) := by
      rw [bodyT_cons, strOfBytes_append]; rfl
    rw [e]
    simp only [parse]
    rw [parse_body l f (by simpa using h) (fun m hm => hb m (List.mem_cons_of_mem _ hm))]
    congr 1
    unfold pn
    have e1 := wb n.kind (by omega)
    have e2 : ((UInt8.ofNat (IntKind.u8.wrap (IntKind.i64.wrap (n.parent + 1))).toNat).toNat : Int) = n.parent + 1 := by
      rw [wi64 _ (by omega)]; exact wb _ (by omega)
    rw [e1, e2]
    obtain ⟨x, y, z⟩ := n
    cases z with
    | true => simp
    | false => simp
theorem getS_text {t : List Nod} (h : mayT t = true) : getS (textT t) = (t, 0) := by
  have hl := mayT_length h
  unfold getS
  have e : parse 9 (textT t).tail = t := by
    rw [textT_cons, List.tail_cons]
    refine parse_body t 9 (by omega) fun n hn => ?_
    obtain ⟨i, hi, rfl⟩ := List.mem_iff_getElem.1 hn
    exact par_bounds h hi
  rw [e]
  unfold finS
  rw [if_pos ⟨h, rfl⟩]
theorem getS_spec (s : List UInt8) : (∃ t, getS s = (t, 0) ∧ mayT t = true ∧ textT t = s) ∨ getS s = ([], 600) := by
  unfold getS finS
  split
  · rename_i h; exact .inl ⟨_, rfl, h.1, h.2⟩
  · exact .inr rfl
theorem pure_SchemaBack (t : List Nod) (s : List UInt8) (ht : (t.length : Int) * 24 ≤ 140737488351232) (hs : (s.length : Int) ≤ 140737488351232) : ∃ k, quiverlaw6_SchemaBack.f idb k t s = some true := by
  refine ⟨t.length + 1000 + 1, ?_⟩
  rw [quiverlaw6_SchemaBack.f_eq]
  have hk1 : 1 ≤ t.length + 1000 := by omega
  have j : quiverlaw6_SchemaBack.j8 idb (t.length + 1000) s = some true := by
    rw [quiverlaw6_SchemaBack.j8_eq, schema_Get_ok (show 30 ≤ t.length + 1000 by omega) s (by omega)]
    simp only [Option.bind_some, law0_Num hk1]
    rcases getS_spec s with ⟨u, hu, hm, he⟩ | hu
    · rw [hu]
      have hb : ((0 : Int) != 0) = false := rfl
      simp only [hb, cond, schema_Put_ok (show 22 ≤ t.length + 1000 by omega), putS, hm, if_true, Option.bind_some, law0_Num hk1, beq_self_eq_true, he]
    · rw [hu]
      have hb : ((600 : Int) != 0) = true := rfl
      simp only [hb, cond, SameType_ok ([] : List Nod) [] (by simp) (show ([] : List Nod).length + 4 ≤ t.length + 1000 by rw [List.length_nil]; omega), Option.bind_some, decide_true]
  have hp := schema_Put_ok (show 22 ≤ t.length + 1000 by omega) t
  simp only [show quiverlaw6_awake.f idb (t.length + 1000) = some true by rw [show t.length + 1000 = (t.length + 940) + 60 by omega]; exact awake6 _, Option.bind_some, Bool.not_true, cond, hp, law0_Num hk1, bar_eq, j]
  unfold putS
  cases hm : mayT t with
  | false =>
    have hb : ((600 : Int) == 0) = false := rfl
    simp only [Bool.false_eq_true, if_false, hb]
  | true =>
    have hb : ((0 : Int) == 0) = true := rfl
    have hb2 : (!((0 : Int) != 0)) = true := rfl
    have hl := mayT_length hm
    have htl := textT_length t
    simp only [if_true, hb, schema_Get_ok (show 30 ≤ t.length + 1000 by omega) (textT t) (by omega), getS_text hm, Option.bind_some, law0_Num hk1, hb2, SameType_ok t t (by omega) (show t.length + 4 ≤ t.length + 1000 by omega), decide_true, Bool.not_true]

/-! ### Unlike types, cut texts -/
theorem u64_mod (x : Int) (m : Nat) (h0 : 0 < m) (hm : m ≤ 1000) : IntKind.u64.wrap (m : Int) = (m : Int) ∧ 0 ≤ IntKind.i64.wrap (Int.tmod (IntKind.u64.wrap x) (m : Int)) ∧ IntKind.i64.wrap (Int.tmod (IntKind.u64.wrap x) (m : Int)) < (m : Int) := by
  have e1 : IntKind.u64.wrap (m : Int) = (m : Int) := wu64 _ (by omega)
  have hx : 0 ≤ IntKind.u64.wrap x := by
    have : IntKind.u64.wrap x = x % 18446744073709551616 := by simp [IntKind.wrap, IntKind.bits, IntKind.signed]
    omega
  have h1 : Int.tmod (IntKind.u64.wrap x) (m : Int) = IntKind.u64.wrap x % (m : Int) := Int.tmod_eq_emod_of_nonneg hx
  have h2 : 0 ≤ IntKind.u64.wrap x % (m : Int) := Int.emod_nonneg _ (by omega)
  have h3 : IntKind.u64.wrap x % (m : Int) < (m : Int) := Int.emod_lt_of_pos _ (by omega)
  rw [h1, wi64 _ (by omega)]
  exact ⟨e1, h2, h3⟩

/-- A type with another truth in one node. -/
def flip (t : List Nod) (i : Nat) : List Nod := match t[i]? with | some n => t.set i ⟨n.kind, n.parent, !n.null⟩ | none => t
theorem flip_par (t : List Nod) (i j : Nat) : par (flip t i) j = par t j ∧ knd (flip t i) j = knd t j := by
  unfold flip
  cases h : t[i]? with
  | none => exact ⟨rfl, rfl⟩
  | some n =>
    have hi := (List.getElem?_eq_some_iff.mp h).1
    by_cases e : i = j
    · subst e
      simp [par, knd, List.getElem?_set_self hi, h]
    · simp [par, knd, List.getElem?_set_ne e]
theorem flip_length (t : List Nod) (i : Nat) : (flip t i).length = t.length := by
  unfold flip
  cases t[i]? <;> simp
theorem kidsU_congr {t u : List Nod} (h : ∀ j, par u j = par t j) (a : Int) (i : Nat) : kidsU u a i = kidsU t a i := by
  unfold kidsU
  simp only [h]
theorem wayF_congr {t u : List Nod} (h : ∀ j, par u j = par t j) : ∀ (f : Nat) (a : Int), wayF u f a = wayF t f a
  | 0, _ => rfl
  | f + 1, a => by simp only [wayF, h, wayF_congr h f]
theorem mayT_congr {t u : List Nod} (hl : u.length = t.length) (h : ∀ j, par u j = par t j ∧ knd u j = knd t j) : mayT u = mayT t := by
  have hp : ∀ j, par u j = par t j := fun j => (h j).1
  have hk : ∀ j, knd u j = knd t j := fun j => (h j).2
  unfold mayT kidsB kindB standsB kidsL wayL
  simp only [hl, hp, hk, kidsU_congr hp, wayF_congr hp]
theorem body_at {l : List Nod} {i : Nat} {n : Nod} (h : l[i]? = some n) : (bodyT l)[3 * i + 2]? = some (if n.null then 1 else 0) := by
  induction l generalizing i with
  | nil => simp at h
  | cons m l ih =>
    rw [bodyT_cons]
    cases i with
    | zero =>
      simp only [List.getElem?_cons_zero, Option.some.injEq] at h
      subst h
      rfl
    | succ i =>
      rw [List.getElem?_append_right (by simp [nb]; omega), show 3 * (i + 1) + 2 - (nb m).length = 3 * i + 2 by simp [nb]; omega]
      exact ih (by simpa using h)
theorem flip_text {t : List Nod} {i : Nat} (hi : i < t.length) : textT t ≠ textT (flip t i) := by
  intro e
  rw [textT_cons, textT_cons] at e
  have e2 := (List.cons.inj e).2
  have h1 := body_at (List.getElem?_eq_getElem hi)
  have h2 : (flip t i)[i]? = some ⟨t[i].kind, t[i].parent, !t[i].null⟩ := by
    unfold flip
    rw [List.getElem?_eq_getElem hi]
    simp [List.getElem?_set_self hi]
  have h3 := body_at h2
  have q := congrArg (fun l : List UInt8 => l[3 * i + 2]?) e2
  simp only [strOfBytes, List.getElem?_map, h1, h3, Option.map_some, Option.some.injEq] at q
  cases hz : t[i].null <;> rw [hz] at q <;> simp at q
theorem pure_SchemaUnlike (t : List Nod) (a1 : Int) (ht : (t.length : Int) * 24 ≤ 140737488351232) : ∃ k, quiverlaw6_SchemaUnlike.f idb k t a1 = some true := by
  refine ⟨t.length + 1000 + 1, ?_⟩
  rw [quiverlaw6_SchemaUnlike.f_eq]
  have hk1 : 1 ≤ t.length + 1000 := by omega
  simp only [show quiverlaw6_awake.f idb (t.length + 1000) = some true by rw [show t.length + 1000 = (t.length + 940) + 60 by omega]; exact awake6 _, Option.bind_some, Bool.not_true, cond, schema_Put_ok (show 22 ≤ t.length + 1000 by omega), law0_Num hk1, CopyType_ok hk1 t ht]
  cases hm : mayT t with
  | false =>
    have hb : (!((600 : Int) != 0)) = false := rfl
    simp only [putS, hm, Bool.false_eq_true, if_false, hb, beq_self_eq_true]
  | true =>
    have hl := mayT_length hm
    obtain ⟨u1, u2, u3⟩ := u64_mod a1 t.length (by omega) (by omega)
    generalize hx : IntKind.i64.wrap (Int.tmod (IntKind.u64.wrap a1) (t.length : Int)) = x at u2 u3
    have hb : (!((0 : Int) != 0)) = true := rfl
    have hz : ((t.length : Int) == 0) = false := beq_eq_false_iff_ne.2 (by omega)
    have hxi : x.toNat < t.length := by omega
    have hget : t[x.toNat]? = some t[x.toNat] := List.getElem?_eq_getElem hxi
    have hset : t.set x.toNat ⟨t[x.toNat].kind, t[x.toNat].parent, !t[x.toNat].null⟩ = flip t x.toNat := by unfold flip; rw [hget]
    have hmf : mayT (flip t x.toNat) = true := by rw [mayT_congr (flip_length t _) (flip_par t _)]; exact hm
    have hne : (textT t != textT (flip t x.toNat)) = true := by simpa using flip_text hxi
    have hlen : (textT (flip t x.toNat)).length = (textT t).length := by rw [textT_length, textT_length, flip_length]
    simp only [putS, hm, if_true, hb, u1, hz, hx, u2, u3, decide_true, Bool.and_self, hget, Option.bind_some, hset, hmf, beq_self_eq_true, hne, hlen]

theorem getS_not (s : List UInt8) (h : ∀ t, mayT t = true → textT t ≠ s) : getS s = ([], 600) := by
  rcases getS_spec s with ⟨t, _, hm, he⟩ | h'
  · exact absurd he (h t hm)
  · exact h'
theorem pure_SchemaCut (t : List Nod) (a1 : Int) (s : List UInt8) (ht : (t.length : Int) * 24 ≤ 140737488351232) (hs : (s.length : Int) ≤ 140737488351232) : ∃ k, quiverlaw6_SchemaCut.f idb k t a1 s = some true := by
  refine ⟨t.length + 1000 + 1, ?_⟩
  rw [quiverlaw6_SchemaCut.f_eq]
  have hk1 : 1 ≤ t.length + 1000 := by omega
  simp only [show quiverlaw6_awake.f idb (t.length + 1000) = some true by rw [show t.length + 1000 = (t.length + 940) + 60 by omega]; exact awake6 _, Option.bind_some, Bool.not_true, cond, schema_Put_ok (show 22 ≤ t.length + 1000 by omega), law0_Num hk1]
  cases hm : mayT t with
  | false =>
    have hb : (!((600 : Int) != 0)) = false := rfl
    simp only [putS, hm, Bool.false_eq_true, if_false, hb, beq_self_eq_true]
  | true =>
    have hl := mayT_length hm
    have htl := textT_length t
    obtain ⟨u1, u2, u3⟩ := u64_mod a1 (textT t).length (by omega) (by omega)
    generalize hx : IntKind.i64.wrap (Int.tmod (IntKind.u64.wrap a1) ((textT t).length : Int)) = x at u2 u3
    have hb : (!((0 : Int) != 0)) = true := rfl
    have h1 : ¬ (((textT t).length : Int) < 1) := by omega
    have hz : (((textT t).length : Int) == 0) = false := beq_eq_false_iff_ne.2 (by omega)
    have u4 : x ≤ (((textT t).length : Nat) : Int) := by omega
    obtain ⟨a, l, hal⟩ : ∃ a l, textT t = a :: l := ⟨_, _, textT_cons t⟩
    obtain ⟨q1, q2⟩ := textT_head hm hal
    have g1 : getS (List.drop 0 (List.take x.toNat (textT t))) = ([], 600) := by
      refine getS_not _ fun v hv he => ?_
      have hvl := mayT_length hv
      have hlen := congrArg List.length he
      rw [textT_length, List.drop_zero, List.length_take] at hlen
      rw [List.drop_zero, hal] at he
      obtain ⟨m, hmx⟩ : ∃ m, x.toNat = m + 1 := ⟨x.toNat - 1, by omega⟩
      rw [hmx, List.take_succ_cons] at he
      obtain ⟨r1, r2⟩ := textT_head hv he
      omega
    have g2 : getS ((textT t ++ [0]) ++ s) = ([], 600) := by
      refine getS_not _ fun v hv he => ?_
      have hlen := congrArg List.length he
      rw [textT_length, List.length_append, List.length_append, textT_length] at hlen
      rw [hal, List.append_assoc, List.cons_append] at he
      obtain ⟨r1, r2⟩ := textT_head hv he
      simp at hlen
      omega
    have d1 : (textT t).length + ([0] : List UInt8).length ≤ 9223372036854775807 := by simp; omega
    have d2 : (textT t ++ [0]).length + s.length ≤ 9223372036854775807 := by simp; omega
    have s1 : schema_Get.f idb (t.length + 1000) (List.drop 0 (List.take x.toNat (textT t))) = some ([], 600) := by
      rw [schema_Get_ok (by omega) _ (by rw [List.drop_zero, List.length_take]; omega), g1]
    have s2 : schema_Get.f idb (t.length + 1000) ((textT t ++ [0]) ++ s) = some ([], 600) := by
      rw [schema_Get_ok (by omega) _ (by simp; omega), g2]
    simp only [putS, hm, if_true, hb, h1, decide_false, u1, hz, hx, u2, u4, decide_true, Bool.and_self, s1, d1, d2, s2, Option.bind_some, beq_self_eq_true]

end Go.Proofs.YtgedegmcbkligaaP
