/- What is built may be an array, and its values are those that it was built of; no condition. What is built: its values are those that it was built of; no condition. Building: what Build answers of any texts; no condition but the sizes that a machine has. -/
import Derived.Test.YtppmpfddcohkjaaGreatDoorPBuild4
namespace Go.Proofs.YtppmpfddcohkjaaGreatDoorP
open Go Go.Proofs.YtppmpfddcohkjaaGreatDoorA

/-! ### Parts of texts -/
theorem At.flat {α : Type} (g : α → List UInt8) : ∀ (l : List α) (j : Nat) (h : j < l.length), At (l.map g).flatten (((l.take j).map fun x => (g x).length).sum) (g l[j])
  | [], j, h => by simp at h
  | x :: l, 0, h => ⟨[], (l.map g).flatten, by simp, rfl⟩
  | x :: l, j + 1, h => by
    obtain ⟨pre, post, e, hl⟩ := At.flat g l j (by simpa using h)
    refine ⟨g x ++ pre, post, ?_, ?_⟩
    · rw [List.map_cons, List.flatten_cons, e]; simp [List.append_assoc]
    · rw [List.length_append, hl, List.take_succ_cons, List.map_cons, List.sum_cons]
theorem sum_const {α : Type} (g : α → Nat) (c : Nat) : ∀ l : List α, (∀ x ∈ l, g x = c) → (l.map g).sum = c * l.length
  | [], _ => by simp
  | x :: l, h => by
    rw [List.map_cons, List.sum_cons, sum_const g c l fun y hy => h y (List.mem_cons_of_mem _ hy), h x List.mem_cons_self, List.length_cons, Nat.mul_add]; omega
theorem intsV_at {vs : List Vl} {j : Nat} (h : j < vs.length) : At (intsV vs) (8 * j) (w8 (numV vs[j])) := by
  have := At.flat (fun v => w8 (numV v)) vs j h
  rw [sum_const (fun v => (w8 (numV v)).length) 8 _ (fun _ _ => rfl), List.length_take, Nat.min_eq_left (by omega)] at this
  exact this
theorem bytsV_at {vs : List Vl} {j : Nat} (h : j < vs.length) : At (bytsV vs) (cum (fun v => (bytV v).length) vs j) (bytV vs[j]) := At.flat bytV vs j h
theorem endsV_at (g : Vl → Nat) (vs : List Vl) {m j : Nat} (h : j < m) : At (endsV g vs m) (4 * j) (w4 (cum g vs j : Int)) := by
  have := At.flat (fun j => w4 (cum g vs j : Int)) (List.range m) j (by rw [List.length_range]; exact h)
  rw [sum_const (fun j => (w4 (cum g vs j : Int)).length) 4 _ (fun _ _ => rfl), List.length_take, List.getElem_range, List.length_range, Nat.min_eq_left (by omega)] at this
  exact this
theorem numA_at {s : List UInt8} {j : Nat} {x : Int} (h : At s (4 * j) (w4 x)) (hx : may x = true) : numA s j = (x, 0) := by
  obtain ⟨pre, post, rfl, hl⟩ := h
  have := get_w4 pre post x hx
  rw [hl] at this
  unfold numA
  rw [← this]; congr 1
theorem endsV_num (g : Vl → Nat) (vs : List Vl) {m j : Nat} (h : j < m) (hc : cum g vs j ≤ 2147483647) : okN (endsV g vs m) j = true ∧ eN (endsV g vs m) j = (cum g vs j : Int) := by
  have := numA_at (endsV_at g vs h) (may_iff.2 ⟨by omega, by omega⟩)
  unfold okN eN
  rw [this]
  exact ⟨rfl, rfl⟩
theorem cum_mono (g : Vl → Nat) (vs : List Vl) {i j : Nat} (h : i ≤ j) : cum g vs i ≤ cum g vs j := by
  unfold cum
  obtain ⟨d, rfl⟩ : ∃ d, j = i + d := ⟨j - i, by omega⟩
  rw [List.take_add, List.map_append, List.sum_append]; omega
theorem endsV_may (g : Vl → Nat) (vs : List Vl) {c : Nat} (hg : ∀ v ∈ vs, g v ≤ c) (hc : cum g vs vs.length ≤ 2147483647) {most from_ : Int} (hm : (cum g vs vs.length : Int) ≤ most) : endsB (endsV g vs (vs.length + 1)) vs.length most from_ (c : Int) = true := by
  unfold endsB
  rw [range_all_iff]
  intro i hi
  have hci := cum_mono g vs (show i ≤ vs.length by omega)
  obtain ⟨h1, h2⟩ := endsV_num g vs hi (by omega)
  unfold endOK
  rw [h1, h2, dT (by omega)]
  simp only [Bool.true_and]
  by_cases h0 : i = 0
  · rw [dT h0]; rfl
  · obtain ⟨i, rfl⟩ : ∃ q, i = q + 1 := ⟨i - 1, by omega⟩
    have hlt : i < vs.length := by omega
    have hci' := cum_mono g vs (show i ≤ vs.length by omega)
    obtain ⟨_, h3⟩ := endsV_num g vs (m := vs.length + 1) (j := i) (by omega) (by omega)
    have hs := cum_succ g hlt
    have hgv := hg vs[i] (List.getElem_mem hlt)
    rw [Nat.add_sub_cancel, h3, dF h0, dT (by omega), dT (show ((cum g vs (i + 1) : Nat) : Int) - (cum g vs i : Int) ≤ (c : Int) by omega), Bool.or_true]; rfl

/-! ### What may be has room -/
theorem arrB_roomyD : ∀ (d : Nat) {t : List Nod} {a : Int} {x : Arr}, arrB t a x = true → roomyA d x
  | 0, _, _, _, _ => trivial
  | d + 1, t, a, x, h => by
    obtain ⟨hn, hb⟩ := arrB_buf h
    obtain ⟨hm, i, hi, rfl⟩ := nodeB_may hn
    have hkk := kidsU_length t (i : Int) t.length
    have htl := mayT_length hm
    have hkl : (kidsL t (i : Int)).length ≤ 8 := by unfold kidsL; omega
    have e1 := hb.off; have e2 := hb.len; have e3 := hb.rows; have e4 := hb.valid; have e5 := hb.ends; have e6 := hb.data
    have hks : x.kids.length ≤ 8 ∧ ∀ k ∈ x.kids, roomyA d k := by
      by_cases hl : x.layout = 0
      · have hP := arrB_plain h hl
        refine ⟨by rw [hP.kids]; exact hkl, fun k hk => ?_⟩
        obtain ⟨j, hj, rfl⟩ := List.mem_iff_getElem.1 hk
        rw [kidA_get hj]
        exact arrB_roomyD d (hP.may j hj)
      · obtain ⟨hO, _⟩ := arrB_one h hl
        refine ⟨by rw [hO.kids]; decide, fun k hk => ?_⟩
        obtain ⟨j, hj, rfl⟩ := List.mem_iff_getElem.1 hk
        have : j = 0 := by have := hO.kids; omega
        subst this
        rw [kidA_get hj]
        exact arrB_roomyD d hO.may
    exact ⟨by omega, by omega, by omega, by omega, by omega, by omega, hks.2⟩
theorem arrB_roomy {t : List Nod} {a : Int} {x : Arr} (h : arrB t a x = true) : RoomyA x := fun d => arrB_roomyD d h

/-! ### What is built may be -/
structure Flat (x : Arr) (n : Nat) : Prop where
  layout : x.layout = 0
  offset : x.offset = 0
  length : x.length = (n : Int)
  small : n ≤ 64
theorem shutK_some {n : Nat} {v e d : List UInt8} {ks : List Arr} {A : Arr} (h : shutK n v e d ks = some A) : A = .mk 0 0 (n : Int) v e d ks ∧ d.length ≤ 4096 ∧ e.length ≤ 4096 := by
  unfold shutK at h
  split at h
  · rename_i hh; cases h; exact ⟨rfl, hh⟩
  · cases h
theorem bV_flat : ∀ (f : Nat) {t : List Nod} {a : Int} {vs : List Vl} {A : Arr}, bV f t a vs = some A → Flat A vs.length
  | 0, _, _, _, _, h => by cases h
  | f + 1, t, a, vs, A, h => by
    unfold bV at h
    split at h
    · cases h
    rename_i h64
    have fin : ∀ {v e d : List UInt8} {ks : List Arr}, shutK vs.length v e d ks = some A → Flat A vs.length := by
      intro v e d ks h
      obtain ⟨rfl, _⟩ := shutK_some h
      exact ⟨rfl, rfl, rfl, by omega⟩
    split at h
    · exact fin h
    split at h
    · exact fin h
    split at h
    · exact fin h
    split at h
    · obtain ⟨ks, _, h⟩ := Option.bind_eq_some_iff.1 h; exact fin h
    · obtain ⟨ks, _, h⟩ := Option.bind_eq_some_iff.1 h; exact fin h
theorem bV_may : ∀ (f : Nat) {t : List Nod} {a : Int} {vs : List Vl} {A : Arr}, nodeB t a = true → t.length - a.toNat < f → (∀ v ∈ vs, Typed f t a v) → bV f t a vs = some A → arrB t a A = true
  | 0, _, _, _, _, _, _, _, h => by cases h
  | f + 1, t, a, vs, A, hn, hf, hvs, h => by
    have hF := bV_flat (f + 1) h
    obtain ⟨hm, i, hi, rfl⟩ := nodeB_may hn
    rw [Int.toNat_natCast] at hf
    unfold bV at h
    rw [Int.toNat_natCast] at h
    split at h
    · cases h
    rename_i h64
    -- what all kinds have
    have gen : ∀ {e d : List UInt8} {ks : List Arr}, A = .mk 0 0 (vs.length : Int) (validT (vs.map Vl.txt)) e d ks → d.length ≤ 4096 → e.length ≤ 4096 → ks.length = (kidsL t (i : Int)).length →
        (∀ j (hj : j < ks.length), arrB t (ksT t (i : Int) j) ks[j] = true) → kindM t i A = true → arrB t (i : Int) A = true := by
      intro e d ks hA hd he hk hks hkM
      have hvl := validT_len (vs.map Vl.txt)
      rw [List.length_map] at hvl
      rw [arrB_eq, if_pos hF.layout, hn, Int.toNat_natCast]
      have hB : bufB (nul t i) A = true := by
        rw [bufB_iff]
        subst hA
        refine ⟨Int.le_refl _, by show (0 : Int) ≤ (vs.length : Int); omega, by show (0 : Int) + (vs.length : Int) ≤ 64; omega, by show (validT _).length ≤ 4096; omega, he, hd, ?_⟩
        show validT (vs.map Vl.txt) = [] ∨ nul t i = true ∧ bitB (0 + (vs.length : Int)) ≤ ((validT (vs.map Vl.txt)).length : Int)
        unfold validT
        split
        · exact .inl rfl
        · rename_i hall
          right
          refine ⟨?_, by rw [bitsT_len, List.length_map, List.length_map]; unfold bitB; omega⟩
          obtain ⟨y, hy, hy'⟩ := List.all_eq_false.1 ((Bool.not_eq_true _).mp hall)
          obtain ⟨v, hv, rfl⟩ := List.mem_map.1 hy
          have hT := (hvs v hv).2
          rw [Int.toNat_natCast] at hT
          rw [txt_isV] at hy'
          cases v with
          | n => exact hT
          | i x => simp at hy'
          | b c => simp at hy'
          | s l => simp at hy'
          | l us => simp at hy'
          | r us => simp at hy'
      rw [hB, hkM]
      subst hA
      show (true && (true && (decide (ks.length = (kidsL t (i : Int)).length) && ((List.range ks.length).all (fun j => arrB t (ksT t (i : Int) j) (ks.getD j _)) && true)))) = true
      rw [dT hk]
      simp only [Bool.true_and, Bool.and_true]
      rw [range_all_iff]
      intro j hj
      have := hks j hj
      rw [List.getD, List.getElem?_eq_getElem hj]
      exact this
    have hrows : rowsN A = vs.length := by unfold rowsN; rw [hF.offset, hF.length]; omega
    have hkb := (((mayT_iff t).1 hm).2.1 i hi).1
    unfold kindB at hkb
    simp only [Bool.and_eq_true, decide_eq_true_eq] at hkb
    split at h
    · rename_i h0
      obtain ⟨hA, hd, he⟩ := shutK_some h
      have hnil := kids_none hm hi (by rw [h0]; rfl)
      refine gen hA hd he (by rw [hnil]; rfl) (fun j hj => by simp at hj) ?_
      unfold kindM
      rw [if_pos h0, hrows, hA]
      show (([] : List UInt8) == [] && decide (8 * vs.length ≤ (intsV vs).length)) = true
      rw [intsV_len, dT (Nat.le_refl _)]; rfl
    split at h
    · rename_i h0 h1
      obtain ⟨hA, hd, he⟩ := shutK_some h
      have hnil := kids_none hm hi (by rw [h1]; rfl)
      refine gen hA hd he (by rw [hnil]; rfl) (fun j hj => by simp at hj) ?_
      unfold kindM
      rw [if_neg h0, if_pos h1, hF.offset, hF.length, hA]
      show (([] : List UInt8) == [] && decide (bitB (0 + (vs.length : Int)) ≤ ((bitsT (vs.map trueV)).length : Int))) = true
      rw [bitsT_len, List.length_map, dT (by unfold bitB; omega)]; rfl
    split at h
    · rename_i h0 h1 h2
      obtain ⟨hA, hd, he⟩ := shutK_some h
      have hnil := kids_none hm hi (by rw [h2]; rfl)
      refine gen hA hd he (by rw [hnil]; rfl) (fun j hj => by simp at hj) ?_
      have hbl := bytsV_cum vs vs.length
      rw [List.take_length] at hbl
      unfold kindM
      rw [if_neg h0, if_neg h1, if_pos h2, hrows, hA]
      refine endsV_may (fun v => (bytV v).length) vs (c := 16) (fun v hv => ?_) (by omega) (by show _ ≤ ((bytsV vs).length : Int); omega)
      rcases (hvs v hv).k2 h2 with e | ⟨y, hy, e⟩
      · rw [e]; exact Nat.zero_le _
      · rw [e]; exact hy
    split at h
    · rename_i h0 h1 h2 h3
      obtain ⟨ks, hs, h⟩ := Option.bind_eq_some_iff.1 h
      obtain ⟨hA, hd, he⟩ := shutK_some h
      obtain ⟨hkl, hkj⟩ := seqK_len _ hs
      have hk1 := kid1 hm hi h3
      obtain ⟨q, hq1, hq2, hq3⟩ := ksT_gt hm (i := i) (j := 0) (by omega)
      have hT : ∀ w ∈ vs.flatMap lstV, Typed f t (ksT t (i : Int) 0) w := by
        intro w hw
        obtain ⟨u, hu, hw⟩ := List.mem_flatMap.1 hw
        rcases (hvs u hu).k3 h3 with e | ⟨y, _, hyt, e⟩
        · rw [e] at hw; simp [lstV] at hw
        · rw [e] at hw; exact hyt w hw
      have hB0 := hkj 0 (by omega)
      have hK := bV_flat f hB0
      refine gen hA hd he hkl (fun j hj => ?_) ?_
      · have : j = 0 := by omega
        subst this
        exact bV_may f (by rw [hq1]; exact nodeB_of hm hq3) (by rw [hq1, Int.toNat_natCast]; omega) hT hB0
      · unfold kindM
        rw [if_neg h0, if_neg h1, if_neg h2, if_pos h3, hrows]
        have hkA : kidA A 0 = ks[0]'(by omega) := by
          rw [hA]; unfold kidA
          show ks.getD 0 _ = _
          rw [List.getD, List.getElem?_eq_getElem (by omega)]; rfl
        have hlen := hK.length
        have hcl := lstsV_cum vs vs.length
        rw [List.take_length] at hcl
        have hsm := hK.small
        rw [hkA, hlen, hA]
        show (([] : List UInt8) == [] && endsB (endsV (fun v => (lstV v).length) vs (vs.length + 1)) vs.length ((vs.flatMap lstV).length : Int) 0 64) = true
        rw [show (64 : Int) = ((64 : Nat) : Int) from rfl, endsV_may (fun v => (lstV v).length) vs (c := 64) (fun v hv => ?_) (by omega) (by omega)]
        · rfl
        · rcases (hvs v hv).k3 h3 with e | ⟨y, hy, _, e⟩
          · rw [e]; exact Nat.zero_le _
          · rw [e]; exact hy
    · rename_i h0 h1 h2 h3
      have h4 : knd t i = 4 := by omega
      obtain ⟨ks, hs, h⟩ := Option.bind_eq_some_iff.1 h
      obtain ⟨hA, hd, he⟩ := shutK_some h
      obtain ⟨hkl, hkj⟩ := seqK_len _ hs
      have kid : ∀ j (hj : j < ks.length), arrB t (ksT t (i : Int) j) ks[j] = true ∧ Flat ks[j] vs.length := by
        intro j hj
        obtain ⟨q, hq1, hq2, hq3⟩ := ksT_gt hm (i := i) (j := j) (by omega)
        have hnq : nodeB t (ksT t (i : Int) j) = true := by rw [hq1]; exact nodeB_of hm hq3
        have hBj := hkj j hj
        have hFj := bV_flat f hBj
        rw [List.length_map] at hFj
        refine ⟨bV_may f hnq (by rw [hq1, Int.toNat_natCast]; omega) (fun w hw => ?_) hBj, hFj⟩
        obtain ⟨u, hu, rfl⟩ := List.mem_map.1 hw
        rcases (hvs u hu).k4 h4 with e | ⟨y, hy, hyt, e⟩
        · rw [e]
          simp only [fldV]
          exact zero_typed f hnq (by rw [hq1, Int.toNat_natCast]; omega)
        · rw [e]
          have hjy : j < y.length := by omega
          have hg : fldV f t (i : Int) j (.r y) = y[j] := by simp [fldV, hjy]
          rw [hg]
          exact hyt j hjy
      refine gen hA hd he hkl (fun j hj => (kid j hj).1) ?_
      unfold kindM
      rw [if_neg h0, if_neg h1, if_neg h2, if_neg h3, hF.offset, hF.length, hA]
      show (([] : List UInt8) == [] && (([] : List UInt8) == [] && !ks.any fun c => decide (c.length < 0 + (vs.length : Int)))) = true
      have : ks.any (fun c => decide (c.length < 0 + (vs.length : Int))) = false := by
        rw [List.any_eq_false]
        intro c hc
        obtain ⟨j, hj, rfl⟩ := List.mem_iff_getElem.1 hc
        rw [(kid j hj).2.length]
        simp
      rw [this]; rfl

end Go.Proofs.YtppmpfddcohkjaaGreatDoorP

namespace Go.Proofs.YtppmpfddcohkjaaGreatDoorP
open Go Go.Proofs.YtppmpfddcohkjaaGreatDoorA

theorem range'_shift (g : Nat → List UInt8) (a n : Nat) : (List.range' a n).map g = (List.range n).map fun j => g (a + j) := by
  rw [List.range_eq_range']
  induction n generalizing a with
  | zero => rfl
  | succ n ih =>
    rw [List.range'_succ, List.range'_succ, List.map_cons, List.map_cons, ih]
    refine congrArg _ ?_
    refine List.ext_getElem (by simp) fun j h1 h2 => ?_
    simp only [List.getElem_map, List.getElem_range']
    congr 1; omega
theorem flatMap_slice {vs : List Vl} {r : Nat} (h : r < vs.length) {j : Nat} (hj : j < (lstV vs[r]).length) :
    (vs.flatMap lstV)[cum (fun v => (lstV v).length) vs r + j]? = some (lstV vs[r])[j] := by
  have e : vs = vs.take r ++ vs[r] :: vs.drop (r + 1) := by rw [← List.drop_eq_getElem_cons h, List.take_append_drop]
  have e2 : vs.flatMap lstV = (vs.take r).flatMap lstV ++ (lstV vs[r] ++ (vs.drop (r + 1)).flatMap lstV) := by
    have := congrArg (List.flatMap lstV) e
    rw [List.flatMap_append, List.flatMap_cons] at this
    exact this
  have hl := lstsV_cum vs r
  rw [e2, List.getElem?_append_right (by omega), hl, Nat.add_sub_cancel_left, List.getElem?_append_left hj, List.getElem?_eq_getElem hj]
theorem bV_vals : ∀ (f : Nat) {t : List Nod} {a : Int} {vs : List Vl} {A : Arr}, nodeB t a = true → t.length - a.toNat < f → (∀ v ∈ vs, Typed f t a v) → bV f t a vs = some A →
    ∀ g, t.length - a.toNat < g → ∀ r (hr : r < vs.length), valA g t a A r = vs[r].txt
  | 0, _, _, _, _, _, h, _, _, _, _, _, _ => by omega
  | f + 1, t, a, vs, A, hn, hf, hvs, h, g, hg, r, hr => by
    have hF := bV_flat (f + 1) h
    obtain ⟨hm, i, hi, rfl⟩ := nodeB_may hn
    rw [Int.toNat_natCast] at hf hg
    obtain ⟨g, rfl⟩ : ∃ q, g = q + 1 := ⟨g - 1, by omega⟩
    unfold bV at h
    rw [Int.toNat_natCast] at h
    split at h
    · cases h
    rename_i h64
    have hT := hvs vs[r] (List.getElem_mem hr)
    -- is it there?
    have hv : ∀ {e d : List UInt8} {ks : List Arr}, A = .mk 0 0 (vs.length : Int) (validT (vs.map Vl.txt)) e d ks → thereB A.valid r = isV vs[r].txt := by
      intro e d ks hA
      rw [hA]
      have := validT_there (vs.map Vl.txt) (i := r) (by rw [List.length_map]; exact hr)
      rw [List.getElem_map] at this
      exact this
    have there : ∀ {e d : List UInt8} {ks : List Arr}, A = .mk 0 0 (vs.length : Int) (validT (vs.map Vl.txt)) e d ks → (isV vs[r].txt = true → valA (g + 1) t (i : Int) A r =
        if knd t i = 0 then intT (numOf ((A.data.take (8 * r + 8)).drop (8 * r)))
        else if knd t i = 1 then boolT (onB A.data r)
        else if knd t i = 2 then bytesT ((A.data.take (eN A.ends (r + 1)).toNat).drop (eN A.ends r).toNat)
        else if knd t i = 3 then listT ((List.range' (eN A.ends r).toNat ((eN A.ends (r + 1)).toNat - (eN A.ends r).toNat)).map fun j => valA g t (ksT t (i : Int) 0) (kidA A 0) ((kidA A 0).offset.toNat + j))
        else structT ((List.range (kidsL t (i : Int)).length).map fun j => valA g t (ksT t (i : Int) j) (kidA A j) ((kidA A j).offset.toNat + r))) := by
      intro e d ks hA hb
      rw [valA_succ, hv hA, hb, if_neg (by simp), if_neg (by rw [hF.layout]; omega), if_neg (by rw [hF.layout]; omega), Int.toNat_natCast]
    have gone : ∀ {e d : List UInt8} {ks : List Arr}, A = .mk 0 0 (vs.length : Int) (validT (vs.map Vl.txt)) e d ks → vs[r] = .n → valA (g + 1) t (i : Int) A r = vs[r].txt := by
      intro e d ks hA hnv
      have hi0 : isV vs[r].txt = false := by rw [hnv, txt_isV]
      rw [valA_succ, hv hA, hi0, if_pos rfl, hnv, Vl.txt]
    have hkb := (((mayT_iff t).1 hm).2.1 i hi).1
    unfold kindB at hkb
    simp only [Bool.and_eq_true, decide_eq_true_eq] at hkb
    split at h
    · rename_i h0
      obtain ⟨hA, hd, he⟩ := shutK_some h
      rcases hT.k0 h0 with e | ⟨x, hx, e⟩
      · exact gone hA e
      · rw [there hA (by rw [e, txt_isV]), if_pos h0]
        have hs := (intsV_at hr).slice
        rw [w8_length] at hs
        have hAd : A.data = intsV vs := by rw [hA]; rfl
        rw [hAd, hs, e, Vl.txt]
        show intT (numOf (w8 x)) = intT x
        rw [numOf_w8 x hx]
    split at h
    · rename_i h0 h1
      obtain ⟨hA, hd, he⟩ := shutK_some h
      rcases hT.k1 h1 with e | ⟨c, e⟩
      · exact gone hA e
      · rw [there hA (by rw [e, txt_isV]), if_neg h0, if_pos h1]
        have hAd : A.data = bitsT (vs.map trueV) := by rw [hA]; rfl
        rw [hAd, bitsT_on _ (by rw [List.length_map]; exact hr), List.getElem_map, e, Vl.txt]
        rfl
    split at h
    · rename_i h0 h1 h2
      obtain ⟨hA, hd, he⟩ := shutK_some h
      rcases hT.k2 h2 with e | ⟨y, hy, e⟩
      · exact gone hA e
      · rw [there hA (by rw [e, txt_isV]), if_neg h0, if_neg h1, if_pos h2]
        have hAd : A.data = bytsV vs := by rw [hA]; rfl
        have hAe : A.ends = endsV (fun v => (bytV v).length) vs (vs.length + 1) := by rw [hA]; rfl
        have hbl := bytsV_cum vs vs.length
        rw [List.take_length] at hbl
        have hc1 := cum_mono (fun v => (bytV v).length) vs (show r + 1 ≤ vs.length by omega)
        have hc2 := cum_mono (fun v => (bytV v).length) vs (show r ≤ vs.length by omega)
        obtain ⟨_, q1⟩ := endsV_num (fun v => (bytV v).length) vs (m := vs.length + 1) (j := r) (by omega) (by omega)
        obtain ⟨_, q2⟩ := endsV_num (fun v => (bytV v).length) vs (m := vs.length + 1) (j := r + 1) (by omega) (by omega)
        have hs := (bytsV_at hr).slice
        rw [hAd, hAe, q1, q2, Int.toNat_natCast, Int.toNat_natCast, cum_succ _ hr, hs, e, Vl.txt]
        rfl
    split at h
    · rename_i h0 h1 h2 h3
      obtain ⟨ks, hs, h⟩ := Option.bind_eq_some_iff.1 h
      obtain ⟨hA, hd, he⟩ := shutK_some h
      obtain ⟨hkl, hkj⟩ := seqK_len _ hs
      rcases hT.k3 h3 with e | ⟨y, hy, hyt, e⟩
      · exact gone hA e
      · rw [there hA (by rw [e, txt_isV]), if_neg h0, if_neg h1, if_neg h2, if_pos h3]
        have hk1 := kid1 hm hi h3
        obtain ⟨q, hq1, hq2, hq3⟩ := ksT_gt hm (i := i) (j := 0) (by omega)
        have hTs : ∀ w ∈ vs.flatMap lstV, Typed f t (ksT t (i : Int) 0) w := by
          intro w hw
          obtain ⟨u, hu, hw⟩ := List.mem_flatMap.1 hw
          rcases (hvs u hu).k3 h3 with e | ⟨y, _, hyt, e⟩
          · rw [e] at hw; simp [lstV] at hw
          · rw [e] at hw; exact hyt w hw
        have hB0 := hkj 0 (by omega)
        have hK := bV_flat f hB0
        have hkA : kidA A 0 = ks[0]'(by omega) := by
          rw [hA]; unfold kidA
          show ks.getD 0 _ = _
          rw [List.getD, List.getElem?_eq_getElem (by omega)]; rfl
        have hAe : A.ends = endsV (fun v => (lstV v).length) vs (vs.length + 1) := by rw [hA]; rfl
        have hcl := lstsV_cum vs vs.length
        rw [List.take_length] at hcl
        have hsm := hK.small
        have hc1 := cum_mono (fun v => (lstV v).length) vs (show r + 1 ≤ vs.length by omega)
        have hc2 := cum_mono (fun v => (lstV v).length) vs (show r ≤ vs.length by omega)
        obtain ⟨_, q1⟩ := endsV_num (fun v => (lstV v).length) vs (m := vs.length + 1) (j := r) (by omega) (by omega)
        obtain ⟨_, q2⟩ := endsV_num (fun v => (lstV v).length) vs (m := vs.length + 1) (j := r + 1) (by omega) (by omega)
        have hcs := cum_succ (fun v => (lstV v).length) hr
        rw [hAe, q1, q2, Int.toNat_natCast, Int.toNat_natCast, hkA, hK.offset, show cum (fun v => (lstV v).length) vs (r + 1) - cum (fun v => (lstV v).length) vs r = (lstV vs[r]).length by omega, e, txt_l, range'_shift]
        congr 1
        refine List.ext_getElem (by rw [List.length_map, List.length_range, List.length_map]; rfl) fun j h1' h2' => ?_
        rw [List.getElem_map, List.getElem_range, List.getElem_map]
        have hj : j < (lstV vs[r]).length := by rw [e]; simpa [lstV] using h2'
        have hfl := flatMap_slice hr hj
        obtain ⟨hlt, hget⟩ := List.getElem?_eq_some_iff.1 hfl
        rw [show (0 : Int).toNat + (cum (fun v => (lstV v).length) vs r + j) = cum (fun v => (lstV v).length) vs r + j by simp, bV_vals f (by rw [hq1]; exact nodeB_of hm hq3) (by rw [hq1, Int.toNat_natCast]; omega) hTs hB0 g (by rw [hq1, Int.toNat_natCast]; omega) _ hlt, hget]
        simp only [e, lstV]
    · rename_i h0 h1 h2 h3
      have h4 : knd t i = 4 := by omega
      obtain ⟨ks, hs, h⟩ := Option.bind_eq_some_iff.1 h
      obtain ⟨hA, hd, he⟩ := shutK_some h
      obtain ⟨hkl, hkj⟩ := seqK_len _ hs
      rcases hT.k4 h4 with e | ⟨y, hy, hyt, e⟩
      · exact gone hA e
      · rw [there hA (by rw [e, txt_isV]), if_neg h0, if_neg h1, if_neg h2, if_neg h3, e, txt_r]
        congr 1
        refine List.ext_getElem (by rw [List.length_map, List.length_range, List.length_map, hy]) fun j h1' h2' => ?_
        rw [List.getElem_map, List.getElem_range, List.getElem_map]
        have hjy : j < y.length := by simpa using h2'
        obtain ⟨q, hq1, hq2, hq3⟩ := ksT_gt hm (i := i) (j := j) (by omega)
        have hnq : nodeB t (ksT t (i : Int) j) = true := by rw [hq1]; exact nodeB_of hm hq3
        have hBj := hkj j (by omega)
        have hFj := bV_flat f hBj
        have hkA : kidA A j = ks[j]'(by omega) := by
          rw [hA]; unfold kidA
          show ks.getD j _ = _
          rw [List.getD, List.getElem?_eq_getElem (by omega)]; rfl
        rw [hkA, hFj.offset, show (0 : Int).toNat + r = r by simp, bV_vals f hnq (by rw [hq1, Int.toNat_natCast]; omega) (fun w hw => by
          obtain ⟨u, hu, rfl⟩ := List.mem_map.1 hw
          rcases (hvs u hu).k4 h4 with e | ⟨y, hy, hyt, e⟩
          · rw [e]; exact zero_typed f hnq (by rw [hq1, Int.toNat_natCast]; omega)
          · rw [e]
            have hjy : j < y.length := by omega
            have hg : fldV f t (i : Int) j (.r y) = y[j] := by simp [fldV, hjy]
            rw [hg]
            exact hyt j hjy) hBj g (by rw [hq1, Int.toNat_natCast]; omega) r (by rw [List.length_map]; exact hr), List.getElem_map, e]
        have hg : fldV f t (i : Int) j (.r y) = y[j] := by simp [fldV, hjy]
        rw [hg]

end Go.Proofs.YtppmpfddcohkjaaGreatDoorP

namespace Go.Proofs.YtppmpfddcohkjaaGreatDoorP
open Go Go.Proofs.YtppmpfddcohkjaaGreatDoorA

def noA : Arr := .mk 0 0 0 [] [] [] []
/-- The values of a node's texts: each fits, none is too long. -/
def ValsOf (t : List Nod) (a : Int) (Vs : List Vl) : Prop := nodeB t a = true ∧ ∀ v ∈ Vs, Typed 20 t a v ∧ v.txt.length ≤ 65536
theorem nodeB_small {t : List Nod} {a : Int} (h : nodeB t a = true) : t.length - a.toNat < 20 := by
  have := nodeB_len h; omega
def buildT (t : List Nod) (a : Int) (Vs : List Vl) : Arr × Int := match bV 20 t a Vs with | some A => (A, 0) | none => (noA, 1001)
theorem Kf20 : Kf 20 = 221000 := by decide +kernel
theorem Build_tree {t : List Nod} {a : Int} {Vs : List Vl} (h : ValsOf t a Vs) (hl : Vs.length ≤ 9000000000000) {k : Nat} (hk : 230000 + Vs.length ≤ k) : quiverref7_Build.f idb k t a (Vs.map Vl.txt) = some (buildT t a Vs) := by
  obtain ⟨hn, hv⟩ := h
  obtain ⟨k, rfl⟩ : ∃ q, k = q + 1 := ⟨k - 1, by omega⟩
  rw [quiverref7_Build.f_eq, ref_NodeMay_ok (by omega), bS, hn, Bool.not_true, cF]
  refine loop_up (F := fun n j => quiverref7_Build.l0 idb k n a (Vs.map Vl.txt) (j : Int) t) (N := Vs.length) ?_ ?_ k 0 (by omega) (by omega)
  · intro n j hj
    obtain ⟨hT, hl⟩ := hv Vs[j] (List.getElem_mem hj)
    rw [quiverref7_Build.l0_eq, dT (by rw [List.length_map]; omega), cT, rd_get (by rw [List.length_map]; exact hj), bS, List.getElem_map, Fits_tree 20 hT hl k (by omega), bS, Bool.not_true, cF, wsucc (by omega)]
  · intro n
    obtain ⟨A, ok, h1, h2⟩ := build_ok 20 hn (nodeB_small hn) hv hl k (by rw [Kf20]; omega)
    rw [quiverref7_Build.l0_eq, dF (by rw [List.length_map]; omega), cF, h1, bS]
    unfold buildT
    cases hB : bV 20 t a Vs with
    | none =>
      rw [hB] at h2
      simp only at h2
      rw [h2]; rfl
    | some C =>
      rw [hB] at h2
      obtain ⟨rfl, rfl⟩ := h2
      simp only [Bool.not_true, cF]
      rw [Arr.eta]
theorem buildT_may {t : List Nod} {a : Int} {Vs : List Vl} (h : ValsOf t a Vs) {A : Arr} (hA : buildT t a Vs = (A, 0)) : arrB t a A = true ∧ Flat A Vs.length ∧ valsA t a A = Vs.map Vl.txt := by
  obtain ⟨hn, hv⟩ := h
  unfold buildT at hA
  cases hB : bV 20 t a Vs with
  | none => rw [hB] at hA; cases hA
  | some C =>
    rw [hB] at hA
    cases hA
    have hF := bV_flat 20 hB
    refine ⟨bV_may 20 hn (nodeB_small hn) (fun v hv' => (hv v hv').1) hB, hF, ?_⟩
    unfold valsA
    rw [hF.length, hF.offset, Int.toNat_natCast]
    refine List.ext_getElem (by simp) fun r h1 h2 => ?_
    rw [List.getElem_map, List.getElem_range, List.getElem_map, show (0 : Int).toNat + r = r by simp]
    exact bV_vals 20 hn (nodeB_small hn) (fun v hv' => (hv v hv').1) hB 20 (nodeB_small hn) r (by simpa using h2)
theorem noA_roomy : RoomyA noA := roomy_flat rfl (by decide) (by decide) (by decide) (by decide) (by decide)
end Go.Proofs.YtppmpfddcohkjaaGreatDoorP
