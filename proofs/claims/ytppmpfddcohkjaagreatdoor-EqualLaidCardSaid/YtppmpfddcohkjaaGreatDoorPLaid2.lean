/- An array's values are never too much to be built anew; no condition. -/
import Derived.Test.YtppmpfddcohkjaaGreatDoorPLaid
namespace Go.Proofs.YtppmpfddcohkjaaGreatDoorP
open Go Go.Proofs.YtppmpfddcohkjaaGreatDoorA

/-- Rows of an array, one behind the other, and what weighs nothing between. -/
inductive Inc (P : Nat → Vl → Prop) (Z : Vl → Prop) : Nat → List Vl → Nat → Prop
  | nil {lo hi : Nat} (h : lo ≤ hi) : Inc P Z lo [] hi
  | row {lo r hi : Nat} {v : Vl} {vs : List Vl} (h : lo ≤ r) (hp : P r v) (hi' : Inc P Z (r + 1) vs hi) : Inc P Z lo (v :: vs) hi
  | zero {lo hi : Nat} {v : Vl} {vs : List Vl} (hz : Z v) (hi' : Inc P Z lo vs hi) : Inc P Z lo (v :: vs) hi
section
variable {P P' : Nat → Vl → Prop} {Z Z' : Vl → Prop}
theorem Inc.le {lo hi : Nat} {vs : List Vl} (h : Inc P Z lo vs hi) : lo ≤ hi := by
  induction h with
  | nil h => exact h
  | row h _ _ ih => omega
  | zero _ _ ih => exact ih
theorem Inc.low {lo lo' hi : Nat} {vs : List Vl} (h : Inc P Z lo vs hi) (hl : lo' ≤ lo) : Inc P Z lo' vs hi := by
  induction h generalizing lo' with
  | nil h => exact .nil (by omega)
  | row h hp hi _ => exact .row (by omega) hp hi
  | zero hz _ ih => exact .zero hz (ih hl)
theorem Inc.append {a b c : Nat} {vs us : List Vl} (h : Inc P Z a vs b) (h' : Inc P Z b us c) : Inc P Z a (vs ++ us) c := by
  induction h with
  | nil h => exact h'.low h
  | row h hp _ ih => exact .row h hp (ih h')
  | zero hz _ ih => exact .zero hz (ih h')
theorem Inc.len {lo hi : Nat} {vs : List Vl} (h : Inc P (fun _ => False) lo vs hi) : vs.length + lo ≤ hi := by
  induction h with
  | nil h => simpa using h
  | row h _ _ ih => rw [List.length_cons]; omega
  | zero hz _ _ => exact hz.elim
theorem Inc.mono {lo hi : Nat} {vs : List Vl} (h : Inc P Z lo vs hi) (hp : ∀ r v, r < hi → P r v → P' r v) (hz : ∀ v, Z v → Z' v) : Inc P' Z' lo vs hi := by
  induction h with
  | nil h => exact .nil h
  | row h hp' hi' ih => exact .row h (hp _ _ (by have := hi'.le; omega) hp') (ih hp)
  | zero hz' _ ih => exact .zero (hz _ hz') (ih hp)
theorem Inc.map {lo hi : Nat} {vs : List Vl} (h : Inc P Z lo vs hi) (F : Vl → Vl) (c : Nat) (hp : ∀ r v, r < hi → P r v → P' (c + r) (F v)) (hz : ∀ v, Z v → Z' (F v)) : Inc P' Z' (c + lo) (vs.map F) (c + hi) := by
  induction h with
  | nil h => exact .nil (by omega)
  | row h hp' hi' ih => exact .row (by omega) (hp _ _ (by have := hi'.le; omega) hp') (ih hp)
  | zero hz' _ ih => exact .zero (hz _ hz') (ih hp)
theorem Inc.flat {lo hi : Nat} {vs : List Vl} (h : Inc P Z lo vs hi) (E : Nat → Nat) (hE : ∀ r s, r ≤ s → s ≤ hi → E r ≤ E s) (hp : ∀ r v, r < hi → P r v → Inc P' Z' (E r) (lstV v) (E (r + 1))) (hz : ∀ v, Z v → lstV v = []) :
    Inc P' Z' (E lo) (vs.flatMap lstV) (E hi) := by
  induction h with
  | nil h => exact .nil (hE _ _ h (Nat.le_refl _))
  | row h hp' hi' ih =>
    have hle := hi'.le
    rw [List.flatMap_cons]
    exact ((hp _ _ (by omega) hp').append (ih hE hp)).low (hE _ _ h (by omega))
  | zero hz' hi' ih =>
    rw [List.flatMap_cons, hz _ hz', List.nil_append]
    exact ih hE hp
theorem Inc.range (P : Nat → Vl → Prop) (Z : Vl → Prop) (F : Nat → Vl) : ∀ (n p c : Nat), (∀ j, p ≤ j → j < p + n → P (c + j) (F j)) → Inc P Z (c + p) ((List.range' p n).map F) (c + p + n)
  | 0, p, c, _ => .nil (Nat.le_refl _)
  | n + 1, p, c, h => by
    rw [List.range'_succ, List.map_cons]
    have := Inc.range P Z F n (p + 1) c fun j h1 h2 => h j (by omega) (by omega)
    rw [show c + (p + 1) + n = c + p + (n + 1) by omega] at this
    exact .row (Nat.le_refl _) (h p (Nat.le_refl _) (by omega)) this
end
def PR (t : List Nod) (a : Int) (x : Arr) (r : Nat) (v : Vl) : Prop := ∃ g, need t a x < g ∧ x.offset ≤ (r : Int) ∧ v = valV g t a x r
def ZR (t : List Nod) (a : Int) (v : Vl) : Prop := v = .n ∨ ∃ q, v = zeroV q t a
theorem bytes_cum' {f : Nat} {t : List Nod} {i : Nat} {vs : List Vl} (hvs : ∀ v ∈ vs, Typed (f + 1) t (i : Int) v) (hkd : knd t i = 2) : ∀ j, j ≤ vs.length → cum (fun v => (bytV v).length) vs j ≤ 16 * j
  | 0, _ => by simp [cum]
  | j + 1, hj => by
    have ih := bytes_cum' hvs hkd j (by omega)
    have hj' : j < vs.length := by omega
    rw [cum_succ _ hj']
    have : (bytV vs[j]).length ≤ 16 := by
      rcases (hvs vs[j] (List.getElem_mem hj')).k2 hkd with e | ⟨y, hy, e⟩
      · rw [e]; simp [bytV]
      · rw [e]; exact hy
    omega
theorem shutK_ok {n : Nat} {v e d : List UInt8} {ks : List Arr} (hd : d.length ≤ 4096) (he : e.length ≤ 4096) : ∃ A, shutK n v e d ks = some A := by
  unfold shutK; rw [if_pos ⟨hd, he⟩]; exact ⟨_, rfl⟩
theorem bV_leaf {f : Nat} {t : List Nod} {i : Nat} {vs : List Vl} (hin : inner (knd t i) = false) (hk : 0 ≤ knd t i ∧ knd t i ≤ 4) (hvs : ∀ v ∈ vs, Typed (f + 1) t (i : Int) v) (hl : vs.length ≤ 64) : ∃ A, bV (f + 1) t (i : Int) vs = some A := by
  unfold bV
  rw [if_neg (by omega), Int.toNat_natCast]
  by_cases h0 : knd t i = 0
  · rw [if_pos h0]; exact shutK_ok (by rw [intsV_len]; omega) (by simp)
  rw [if_neg h0]
  by_cases h1 : knd t i = 1
  · rw [if_pos h1]; exact shutK_ok (by rw [bitsT_len, List.length_map]; omega) (by simp)
  rw [if_neg h1]
  by_cases h2 : knd t i = 2
  · rw [if_pos h2]
    have hbl := bytsV_cum vs vs.length
    rw [List.take_length] at hbl
    have := bytes_cum' hvs h2 vs.length (Nat.le_refl _)
    exact shutK_ok (by omega) (by rw [endsV_len]; omega)
  · unfold inner at hin
    simp only [Bool.or_eq_false_iff, beq_eq_false_iff_ne] at hin
    omega
theorem endsB_first {s : List UInt8} {rows : Nat} {m f p : Int} (h : endsB s rows m f p = true) : 0 ≤ eN s 0 ∧ eN s 0 ≤ m := by
  unfold endsB at h
  rw [range_all_iff] at h
  have := h 0 (by omega)
  unfold endOK at this
  simp only [Bool.and_eq_true, decide_eq_true_eq] at this
  exact ⟨(okN_good this.1).1, this.2.1⟩
theorem seqK_some {B : Nat → Option Arr} : ∀ m, (∀ j, j < m → ∃ A, B j = some A) → ∃ l, seqK B m = some l
  | 0, _ => ⟨[], rfl⟩
  | m + 1, h => by
    obtain ⟨l, hl⟩ := seqK_some m fun j hj => h j (by omega)
    obtain ⟨A, hA⟩ := h m (by omega)
    exact ⟨l ++ [A], by rw [seqK, hl, hA]; rfl⟩
/-- There is room for what an array has. -/
theorem cap : ∀ (f : Nat) {t : List Nod} {a : Int} {x : Arr} {vs : List Vl} {lo hi : Nat}, arrB t a x = true → t.length - a.toNat < f → (∀ v ∈ vs, Typed f t a v) → Inc (PR t a x) (ZR t a) lo vs hi → hi ≤ rowsN x → vs.length ≤ 64 → ∃ A, bV f t a vs = some A
  | 0, _, _, _, _, _, _, _, h, _, _, _, _ => by omega
  | f + 1, t, a, x, vs, lo, hi, hb, hf, hvs, hinc, hhi, hl => by
    obtain ⟨hn, hB⟩ := arrB_buf hb
    obtain ⟨hm, i, hi', rfl⟩ := nodeB_may hn
    rw [Int.toNat_natCast] at hf hB
    have hkb := (((mayT_iff t).1 hm).2.1 i hi').1
    unfold kindB at hkb
    simp only [Bool.and_eq_true, decide_eq_true_eq] at hkb
    cases hin : inner (knd t i) with
    | false => exact bV_leaf hin hkb hvs hl
    | true =>
      have hl0 : x.layout = 0 := by
        by_cases e : x.layout = 0
        · exact e
        · obtain ⟨hO, _⟩ := arrB_one hb e
          rw [hO.leaf] at hin; cases hin
      have hP := arrB_plain hb hl0
      have hkd := hP.kind
      have hrw := hB.rowsEq
      have hoff := hB.off
      unfold inner at hin
      simp only [Bool.or_eq_true, beq_iff_eq] at hin
      have k0 : knd t i ≠ 0 := by omega
      have k1 : knd t i ≠ 1 := by omega
      have k2 : knd t i ≠ 2 := by omega
      unfold kindM at hkd
      rw [if_neg k0, if_neg k1, if_neg k2] at hkd
      unfold bV
      rw [if_neg (by omega), Int.toNat_natCast, if_neg k0, if_neg k1, if_neg k2]
      -- what a row is
      have unf : ∀ (g r : Nat), x.offset ≤ (r : Int) → valV (g + 1) t (i : Int) x r = .n ∨ valV (g + 1) t (i : Int) x r = (if knd t i = 3 then .l ((List.range' (eN x.ends r).toNat ((eN x.ends (r + 1)).toNat - (eN x.ends r).toNat)).map fun j => valV g t (ksT t (i : Int) 0) (kidA x 0) ((kidA x 0).offset.toNat + j))
          else .r ((List.range (kidsL t (i : Int)).length).map fun j => valV g t (ksT t (i : Int) j) (kidA x j) ((kidA x j).offset.toNat + r))) := by
        intro g r _
        rw [valV]
        by_cases hth : thereB x.valid r = false
        · rw [if_pos hth]; exact .inl rfl
        · right
          rw [if_neg hth, if_neg (by rw [hl0]; omega), if_neg (by rw [hl0]; omega), Int.toNat_natCast, if_neg k0, if_neg k1, if_neg k2]
      by_cases h3 : knd t i = 3
      · rw [if_pos h3] at hkd ⊢
        simp only [Bool.and_eq_true] at hkd
        have hk1 := kid1 hm hi' h3
        obtain ⟨q, hq1, hq2, hq3⟩ := ksT_gt hm (i := i) (j := 0) (by omega)
        have hk0 : 0 < x.kids.length := by rw [hP.kids]; omega
        have hmk := hP.may 0 hk0
        have hkl := arrB_len hmk
        have hnk := need_kid hm (x := x) (kidA x 0) (i := i) (j := 0) (by omega)
        have hends : ∀ r, r < rowsN x → 0 ≤ eN x.ends r ∧ eN x.ends r ≤ eN x.ends (r + 1) ∧ eN x.ends (r + 1) ≤ (kidA x 0).length := by
          intro r hr
          have := endsB_at hkd.2 hr
          omega
        have hE : ∀ r s, r ≤ s → s ≤ hi → (kidA x 0).offset.toNat + (eN x.ends r).toNat ≤ (kidA x 0).offset.toNat + (eN x.ends s).toNat := by
          intro r s hrs hs
          obtain ⟨d, rfl⟩ : ∃ d, s = r + d := ⟨s - r, by omega⟩
          clear hrs
          induction d with
          | zero => exact Nat.le_refl _
          | succ d ih =>
            have h1 := ih (by omega)
            have h2 := hends (r + d) (by omega)
            rw [← Nat.add_assoc]
            omega
        have hflat : Inc (PR t (ksT t (i : Int) 0) (kidA x 0)) (fun _ => False) ((kidA x 0).offset.toNat + (eN x.ends lo).toNat) (vs.flatMap lstV) ((kidA x 0).offset.toNat + (eN x.ends hi).toNat) := by
          refine hinc.flat (fun r => (kidA x 0).offset.toNat + (eN x.ends r).toNat) hE (fun r v hr hp => ?_) fun v hz => ?_
          · obtain ⟨g, hg, ho, rfl⟩ := hp
            obtain ⟨g, rfl⟩ : ∃ q, g = q + 1 := ⟨g - 1, by omega⟩
            have he := hends r (by omega)
            rcases unf g r ho with e | e
            · rw [e]; exact .nil (hE r (r + 1) (by omega) (by omega))
            · rw [e, if_pos h3]
              have := Inc.range (PR t (ksT t (i : Int) 0) (kidA x 0)) (fun _ => False) (fun j => valV g t (ksT t (i : Int) 0) (kidA x 0) ((kidA x 0).offset.toNat + j)) ((eN x.ends (r + 1)).toNat - (eN x.ends r).toNat) (eN x.ends r).toNat (kidA x 0).offset.toNat fun j _ _ => ⟨g, by omega, by omega, rfl⟩
              rw [show (kidA x 0).offset.toNat + (eN x.ends r).toNat + ((eN x.ends (r + 1)).toNat - (eN x.ends r).toNat) = (kidA x 0).offset.toNat + (eN x.ends (r + 1)).toNat by omega] at this
              exact this
          · rcases hz with rfl | ⟨q, rfl⟩
            · rfl
            · cases q with
              | zero => rfl
              | succ q =>
                unfold zeroV
                rw [Int.toNat_natCast, if_neg k0, if_neg k1, if_neg k2, if_pos h3]
                split <;> rfl
        have hlen := hflat.len
        have hlast : (eN x.ends hi).toNat ≤ (kidA x 0).length.toNat := by
          by_cases h0 : hi = 0
          · subst h0
            have := hE 0 0 (Nat.le_refl _) (Nat.le_refl _)
            by_cases hr0 : 0 < rowsN x
            · have := hends 0 hr0; omega
            · -- no rows: the first end is looked at all the same
              have hz := endsB_first hkd.2
              omega
          · have := hends (hi - 1) (by omega)
            rw [show hi - 1 + 1 = hi by omega] at this
            omega
        have hT : ∀ w ∈ vs.flatMap lstV, Typed f t (ksT t (i : Int) 0) w := by
          intro w hw
          obtain ⟨u, hu, hw⟩ := List.mem_flatMap.1 hw
          rcases (hvs u hu).k3 h3 with e | ⟨y, _, hyt, e⟩
          · rw [e] at hw; simp [lstV] at hw
          · rw [e] at hw; exact hyt w hw
        obtain ⟨A, hA⟩ := cap f (x := kidA x 0) hmk (by rw [hq1, Int.toNat_natCast]; omega) hT (hflat.mono (fun _ _ _ h => h) fun _ h => h.elim) (by unfold rowsN; omega) (by omega)
        obtain ⟨ks, hks⟩ := seqK_some (B := fun j => bV f t (ksT t (i : Int) j) (vs.flatMap lstV)) (kidsL t (i : Int)).length fun j hj => by
          have : j = 0 := by omega
          subst this
          exact ⟨A, hA⟩
        rw [hks, Option.bind_some]
        exact shutK_ok (by simp) (by rw [endsV_len]; omega)
      · have h4 : knd t i = 4 := by omega
        rw [if_neg h3] at hkd ⊢
        simp only [Bool.and_eq_true, Bool.not_eq_true', List.any_eq_false, decide_eq_true_eq] at hkd
        obtain ⟨ks, hks⟩ := seqK_some (B := fun j => bV f t (ksT t (i : Int) j) (vs.map (fldV f t (i : Int) j))) (kidsL t (i : Int)).length fun j hj => by
          obtain ⟨q, hq1, hq2, hq3⟩ := ksT_gt hm (i := i) (j := j) hj
          have hnq : nodeB t (ksT t (i : Int) j) = true := by rw [hq1]; exact nodeB_of hm hq3
          have hj' : j < x.kids.length := by rw [hP.kids]; exact hj
          have hmk := hP.may j hj'
          have hkl := arrB_len hmk
          have hnk := need_kid hm (x := x) (kidA x j) hj
          have hlong := hkd.2.2 _ (kidA_mem hj')
          have hmap : Inc (PR t (ksT t (i : Int) j) (kidA x j)) (ZR t (ksT t (i : Int) j)) ((kidA x j).offset.toNat + lo) (vs.map (fldV f t (i : Int) j)) ((kidA x j).offset.toNat + hi) := by
            have hz0 : ∀ v, ZR t (i : Int) v → ZR t (ksT t (i : Int) j) (fldV f t (i : Int) j v) := by
              intro v hz
              rcases hz with rfl | ⟨q, rfl⟩
              · exact .inr ⟨f, rfl⟩
              · cases q with
                | zero => exact .inr ⟨f, rfl⟩
                | succ q =>
                  unfold zeroV
                  rw [Int.toNat_natCast, if_neg k0, if_neg k1, if_neg k2, if_neg h3]
                  split
                  · exact .inr ⟨f, rfl⟩
                  · exact .inr ⟨q, by simp [fldV, hj]⟩
            -- a row that is not there weighs nothing below
            have split : Inc (fun r v => PR t (i : Int) x r v ∧ v ≠ .n) (ZR t (i : Int)) lo vs hi := by
              clear hl hvs
              induction hinc with
              | nil h => exact .nil h
              | @row lo r hi v vs h hp hi' ih =>
                have hle := hi'.le
                by_cases hv : v = .n
                · exact .zero (.inl hv) ((ih hhi).low (by omega))
                · exact .row h ⟨hp, hv⟩ (ih hhi)
              | zero hz hi' ih => exact .zero hz (ih hhi)
            refine split.map _ _ (fun r v hr hp => ?_) hz0
            obtain ⟨⟨g, hg, ho, rfl⟩, hne⟩ := hp
            obtain ⟨g, rfl⟩ : ∃ q, g = q + 1 := ⟨g - 1, by omega⟩
            rcases unf g r ho with e | e
            · exact absurd e hne
            · rw [e, if_neg h3]
              refine ⟨g, by omega, by omega, ?_⟩
              simp [fldV, hj]
          refine cap f (x := kidA x j) hmk (by rw [hq1, Int.toNat_natCast]; omega) (fun w hw => ?_) hmap (by unfold rowsN at hhi ⊢; omega) (by rw [List.length_map]; exact hl)
          obtain ⟨u, hu, rfl⟩ := List.mem_map.1 hw
          rcases (hvs u hu).k4 h4 with e | ⟨y, hy, hyt, e⟩
          · rw [e]; exact zero_typed f hnq (by rw [hq1, Int.toNat_natCast]; omega)
          · rw [e]
            have hjy : j < y.length := by omega
            have hg : fldV f t (i : Int) j (.r y) = y[j] := by simp [fldV, hjy]
            rw [hg]
            exact hyt j hjy
        rw [hks, Option.bind_some]
        exact shutK_ok (by simp) (by simp)

end Go.Proofs.YtppmpfddcohkjaaGreatDoorP
