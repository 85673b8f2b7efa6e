/- Arrays: the law ArrayMore, as the machine answers it; no condition but the sizes that a machine has. -/
import Derived.Test.YtppmpfddcohkjaaPVal2
namespace Go.Proofs.YtppmpfddcohkjaaP
open Go Go.Proofs.YtppmpfddcohkjaaA

/-- Longer buffers. -/
def longer (x : Arr) (d e : List UInt8) : Arr := .mk x.layout x.offset x.length x.valid (x.ends ++ e) (x.data ++ d) x.kids
theorem kidA_longer {x : Arr} {d e : List UInt8} {j : Nat} (hj : j < x.kids.length) : kidA (longer x d e) j = kidA x j := by
  have h : (longer x d e).kids = x.kids := rfl
  rw [← kidA_get hj, ← kidA_get (by rw [h]; exact hj)]
  rfl
theorem take_drop_more {s m : List UInt8} {i j : Nat} (h : j ≤ s.length) : ((s ++ m).take j).drop i = (s.take j).drop i := by
  rw [List.take_append_of_le_length h]
theorem numA_more {s m : List UInt8} {i : Nat} (h : okN s i = true) : numA (s ++ m) i = numA s i := by
  have hf := okN_fits h
  unfold numA get
  have e1 : (4 * (i : Int)).toNat = 4 * i := by omega
  have e2 : (4 * (i : Int) + 4).toNat = 4 * i + 4 := by omega
  rw [e1, e2, take_drop_more hf]
  have h1 : (((4 : Int) = 4 ∨ (4 : Int) = 8) ∧ 0 ≤ 4 * (i : Int) ∧ 4 * (i : Int) + 4 ≤ (s.length : Int)) := ⟨.inl rfl, by omega, by omega⟩
  have h2 : (((4 : Int) = 4 ∨ (4 : Int) = 8) ∧ 0 ≤ 4 * (i : Int) ∧ 4 * (i : Int) + 4 ≤ ((s ++ m).length : Int)) := ⟨.inl rfl, by omega, by rw [List.length_append]; omega⟩
  simp only [h1, h2]
theorem okN_more {s m : List UInt8} {i : Nat} (h : okN s i = true) : okN (s ++ m) i = true ∧ eN (s ++ m) i = eN s i := by
  unfold okN eN
  rw [numA_more h]
  exact ⟨h, rfl⟩
theorem endsB_more {s m : List UInt8} {r : Nat} {q q' f p : Int} (hq : q ≤ q') (h : endsB s r q f p = true) : endsB (s ++ m) r q' f p = true := by
  unfold endsB at h ⊢
  rw [range_all_iff] at h ⊢
  intro j hj
  have h0 := h j hj
  have hp := h (j - 1) (by omega)
  unfold endOK at h0 hp ⊢
  simp only [Bool.and_eq_true] at h0 hp
  have m0 := okN_more (m := m) h0.1
  have mp := okN_more (m := m) hp.1
  rw [m0.2, mp.2, m0.1]
  simp only [Bool.and_eq_true, Bool.or_eq_true, decide_eq_true_eq] at h0 ⊢
  exact ⟨trivial, by omega, h0.2.2⟩

structure Long (t : List Nod) (i : Nat) (x : Arr) (d e : List UInt8) : Prop where
  flat : x.layout = 0
  leaf : ¬ knd t i < 3 → d = []
  ends : x.ends = [] → e = []
  dl : x.data.length + d.length ≤ 4096
  el : x.ends.length + e.length ≤ 4096
theorem beq_nil {s : List UInt8} (h : (s == []) = true) : s = [] := by simpa using h
theorem longer_may {t : List Nod} {i : Nat} {x : Arr} (h : arrB t (i : Int) x = true) {d e : List UInt8} (hL : Long t i x d e) : arrB t (i : Int) (longer x d e) = true := by
  obtain ⟨hn, hb⟩ := arrB_buf h
  rw [Int.toNat_natCast] at hb
  obtain ⟨hm, i', hi, hii⟩ := nodeB_may hn
  obtain rfl : i = i' := by omega
  have hP := arrB_plain h hL.flat
  have hb' : Buf (nul t i) (longer x d e) := by
    refine ⟨hb.off, hb.len, hb.rows, hb.valid, ?_, ?_, hb.there⟩
    · show (x.ends ++ e).length ≤ 4096
      rw [List.length_append]; exact hL.el
    · show (x.data ++ d).length ≤ 4096
      rw [List.length_append]; exact hL.dl
  have eL : (longer x d e).layout = 0 := hL.flat
  have eR : rowsN (longer x d e) = rowsN x := rfl
  rw [arrB_eq, hn, Int.toNat_natCast, bufB_iff.2 hb', Bool.true_and, Bool.true_and, if_pos eL]
  have eK : (longer x d e).kids = x.kids := rfl
  have e1 : ((List.range (longer x d e).kids.length).all fun j => arrB t (ksT t (i : Int) j) (kidA (longer x d e) j)) = true := by
    rw [range_all_iff]
    intro j hj
    rw [kidA_longer (x := x) hj]; exact hP.may j hj
  rw [e1, eK, dT hP.kids, Bool.true_and, Bool.true_and]
  have hk := hP.kind
  unfold kindM at hk ⊢
  rw [eR]
  have eO : (longer x d e).offset = x.offset := rfl
  have eN' : (longer x d e).length = x.length := rfl
  have eD : (longer x d e).data = x.data ++ d := rfl
  have eE : (longer x d e).ends = x.ends ++ e := rfl
  rw [eO, eN', eD, eE, eK]
  split
  · rename_i k0
    rw [if_pos k0] at hk
    simp only [Bool.and_eq_true, decide_eq_true_eq] at hk ⊢
    have hz := beq_nil hk.1
    rw [hz, hL.ends hz, List.length_append]
    exact ⟨rfl, by omega⟩
  · rename_i k0
    rw [if_neg k0] at hk
    split
    · rename_i k1
      rw [if_pos k1] at hk
      simp only [Bool.and_eq_true, decide_eq_true_eq] at hk ⊢
      have hz := beq_nil hk.1
      rw [hz, hL.ends hz, List.length_append]
      exact ⟨rfl, by omega⟩
    · rename_i k1
      rw [if_neg k1] at hk
      split
      · rename_i k2
        rw [if_pos k2] at hk
        exact endsB_more (by rw [List.length_append]; omega) hk
      · rename_i k2
        rw [if_neg k2] at hk
        have hkb := (((mayT_iff t).1 hm).2.1 i hi).1
        unfold kindB at hkb
        simp only [Bool.and_eq_true, decide_eq_true_eq] at hkb
        have hd := hL.leaf (by omega)
        subst hd
        rw [List.append_nil]
        split
        · rename_i k3
          rw [if_pos k3] at hk
          simp only [Bool.and_eq_true] at hk ⊢
          have h0 : 0 < x.kids.length := by
            have := (((mayT_iff t).1 hm).2.2 i hi).1
            unfold kidsB at this
            rw [k3] at this
            have h1 : (kidsL t (i : Int)).length = 1 := by simpa using this
            rw [hP.kids]; omega
          refine ⟨hk.1, ?_⟩
          rw [kidA_longer h0]
          exact endsB_more (Int.le_refl _) hk.2
        · rename_i k3
          rw [if_neg k3] at hk
          have hk' := hk
          simp only [Bool.and_eq_true] at hk'
          have hz := beq_nil hk'.1
          rw [hz, hL.ends hz]
          rw [hz] at hk
          exact hk
theorem onB_more {s m : List UInt8} {i : Nat} (h : i / 8 < s.length) : onB (s ++ m) i = onB s i := by
  unfold onB
  rw [List.getElem?_append_left h]
theorem longer_val {t : List Nod} {i : Nat} {x : Arr} (h : arrB t (i : Int) x = true) {d e : List UInt8} (hL : Long t i x d e) {row : Nat} (h0 : x.offset ≤ (row : Int)) (hr : row < rowsN x) (f : Nat) : valA (f + 1) t (i : Int) (longer x d e) row = valA (f + 1) t (i : Int) x row := by
  obtain ⟨hn, hb⟩ := arrB_buf h
  rw [Int.toNat_natCast] at hb
  obtain ⟨hm, i', hi, hii⟩ := nodeB_may hn
  obtain rfl : i = i' := by omega
  have hP := arrB_plain h hL.flat
  have hrw := hb.rowsEq
  have hk := hP.kind
  unfold kindM at hk
  have eL : (longer x d e).layout = 0 := hL.flat
  have eV : (longer x d e).valid = x.valid := rfl
  have eD : (longer x d e).data = x.data ++ d := rfl
  have eE : (longer x d e).ends = x.ends ++ e := rfl
  unfold valA
  rw [eV, eL, hL.flat, eD, eE, if_neg (show ¬ (0 : Int) = 1 by omega), if_neg (show ¬ (0 : Int) = 1 by omega), if_neg (show ¬ (0 : Int) = 2 by omega), if_neg (show ¬ (0 : Int) = 2 by omega), Int.toNat_natCast]
  congr 1
  by_cases k0 : knd t i = 0
  · rw [if_pos k0, if_pos k0]
    rw [if_pos k0] at hk
    simp only [Bool.and_eq_true, decide_eq_true_eq] at hk
    rw [take_drop_more (by omega)]
  · rw [if_neg k0, if_neg k0]
    rw [if_neg k0] at hk
    by_cases k1 : knd t i = 1
    · rw [if_pos k1, if_pos k1]
      rw [if_pos k1] at hk
      simp only [Bool.and_eq_true, decide_eq_true_eq] at hk
      rw [onB_more (by have := hk.2; rw [← hrw] at this; unfold bitB at this; omega)]
    · rw [if_neg k1, if_neg k1]
      rw [if_neg k1] at hk
      by_cases k2 : knd t i = 2
      · rw [if_pos k2, if_pos k2]
        rw [if_pos k2] at hk
        have he := endsB_at hk hr
        rw [(okN_more he.1).2, (okN_more he.2.1).2, take_drop_more (by omega)]
      · rw [if_neg k2, if_neg k2]
        rw [if_neg k2] at hk
        by_cases k3 : knd t i = 3
        · rw [if_pos k3, if_pos k3]
          rw [if_pos k3] at hk
          simp only [Bool.and_eq_true] at hk
          have he := endsB_at hk.2 hr
          have hz : 0 < x.kids.length := by
            have := (((mayT_iff t).1 hm).2.2 i hi).1
            unfold kidsB at this
            rw [k3] at this
            have h1 : (kidsL t (i : Int)).length = 1 := by simpa using this
            rw [hP.kids]; omega
          rw [(okN_more he.1).2, (okN_more he.2.1).2, kidA_longer hz]
        · rw [if_neg k3, if_neg k3]
          congr 1
          refine List.map_congr_left fun j hj => ?_
          rw [List.mem_range] at hj
          rw [kidA_longer (by rw [hP.kids]; exact hj)]
theorem longer_vals {t : List Nod} {i : Nat} {x : Arr} (h : arrB t (i : Int) x = true) {d e : List UInt8} (hL : Long t i x d e) : valsT t (i : Int) (longer x d e) = (valsA t (i : Int) x, 0) := by
  unfold valsT
  rw [if_pos (longer_may h hL)]
  congr 1
  unfold valsA
  have hl := arrB_len h
  refine List.map_congr_left fun j hj => ?_
  rw [List.mem_range] at hj
  have hj' : j < x.length.toNat := hj
  exact longer_val h hL (row := x.offset.toNat + j) (by omega) (by unfold rowsN; omega) 19
theorem roomy_longer {x : Arr} (hx : RoomyA x) {d e : List UInt8} (h1 : x.data.length + d.length ≤ 4096) (h2 : x.ends.length + e.length ≤ 4096) : RoomyA (longer x d e) := by
  intro n
  cases n with
  | zero => trivial
  | succ n =>
    obtain ⟨a, b, c, _, _, f, g⟩ := hx (n + 1)
    refine ⟨a, b, c, ?_, ?_, f, g⟩
    · show (((x.ends ++ e).length : Nat) : Int) ≤ _
      rw [List.length_append]; omega
    · show (((x.data ++ d).length : Nat) : Int) ≤ _
      rw [List.length_append]; omega
theorem SameTexts_refl {k : Nat} (vs : List (List UInt8)) (hk : vs.length + 3 ≤ k) (hl : vs.length ≤ 4611686018427387904) : quiverlaw0_SameTexts.f idb k vs vs = some true := by
  obtain ⟨k, rfl⟩ : ∃ m, k = m + 1 := ⟨k - 1, by omega⟩
  rw [quiverlaw0_SameTexts.f_eq, show (((vs.length : Nat) : Int) != ((vs.length : Nat) : Int)) = false by simp, cF]
  refine loop_up (F := fun n i => quiverlaw0_SameTexts.l0 idb k n vs vs (i : Int)) (N := vs.length) (r := some true) ?_ ?_ k 0 (by omega) (by omega)
  · intro n i hi
    rw [quiverlaw0_SameTexts.l0_eq, dT (by omega), cT, rd_get hi, bS, bS, show (vs[i] != vs[i]) = false by simp, cF, wsucc (by omega)]
  · intro n
    rw [quiverlaw0_SameTexts.l0_eq, dF (by omega), cF]
theorem AM_j10 {k : Nat} (hk : 1100 ≤ k) {t : List Nod} {i : Nat} {x : Arr} (hx : RoomyA x) (h : arrB t (i : Int) x = true) {d e : List UInt8} (hL : Long t i x d e) :
    quiverlaw8_ArrayMore.j10 idb k (i : Int) t x.layout x.offset x.length x.valid x.ends x.data x.kids x.layout x.offset x.length x.valid (x.ends ++ e) (x.data ++ d) x.kids = some true := by
  have hl := arrB_len h
  have hn : (valsA t (i : Int) x).length ≤ 64 := by unfold valsA; rw [List.length_map, List.length_range]; omega
  rw [quiverlaw8_ArrayMore.j10_eq, Arr.eta, ref_Values_ok hx (by omega), bS]
  show ((quiverref7_Values.f idb k t (i : Int) (longer x d e)).bind fun r_2 => (array_May.f idb k t (i : Int) (longer x d e)).bind fun r_3 => _) = _
  rw [ref_Values_ok (roomy_longer hx hL.dl hL.el) (by omega), bS, May_ok (roomy_longer hx hL.dl hL.el) (by omega), bS, longer_may h hL, cT, longer_vals h hL]
  unfold valsT
  rw [if_pos h]
  simp only [BEq.rfl, cT]
  rw [SameTexts_refl _ (by omega) (by omega), bS]
theorem AM_j8 {k : Nat} (hk : 1100 ≤ k) {t : List Nod} {i : Nat} {x : Arr} (hx : RoomyA x) (h : arrB t (i : Int) x = true) (h0 : x.layout = 0) {m d : List UInt8} (hd : ¬ knd t i < 3 → d = []) (h1 : x.data.length + d.length ≤ 4096) (h2 : x.ends.length + m.length ≤ 4096) :
    quiverlaw8_ArrayMore.j8 idb k (i : Int) m t x.layout x.offset x.length x.valid x.ends x.data x.kids x.layout x.offset x.length x.valid x.ends (x.data ++ d) x.kids = some true := by
  rw [quiverlaw8_ArrayMore.j8_eq]
  by_cases he : x.ends = []
  · rw [show (x.ends != []) = false by rw [he]; rfl, cF, idb_eq]
    have := AM_j10 hk hx h (d := d) (e := []) ⟨h0, hd, fun _ => rfl, h1, by simp; omega⟩
    rw [List.append_nil] at this
    exact this
  · rw [show (x.ends != []) = true by simpa using he, cT, dT (by omega), cT, idb_eq]
    exact AM_j10 hk hx h ⟨h0, hd, fun e => absurd e he, h1, h2⟩
theorem pure_ArrayMore (t : List Nod) (a : Int) (x : Arr) (m : List UInt8) (hx : RoomyA x) (hm : (m.length : Int) ≤ 140737488351232) : ∃ k, quiverlaw8_ArrayMore.f idb k t a x m = some true := by
  obtain ⟨d, hd⟩ := fits_ex x
  refine ⟨d + 2000, ?_⟩
  rw [show d + 2000 = (d + 1999) + 1 from rfl, quiverlaw8_ArrayMore.f_eq, awake8' (by omega), bS, Bool.not_true, cF, ref_May_ok' hx (by omega), bS]
  cases hb : arrB t a x with
  | false => rfl
  | true =>
    obtain ⟨hn, hB⟩ := arrB_buf hb
    obtain ⟨hmt, i, hi, rfl⟩ := nodeB_may hn
    have b1 := hB.data
    have b2 := hB.ends
    rw [Bool.not_true, Bool.not_false, cT]
    by_cases h0 : x.layout = 0
    · rw [show (x.layout != 0) = false by rw [h0]; rfl, Bool.not_false, cT, wi64 ((x.data.length : Int) + (m.length : Int)) (by omega), wi64 ((x.ends.length : Int) + (m.length : Int)) (by omega)]
      by_cases h1 : x.data.length + m.length ≤ 4096
      · rw [dF (show ¬ (x.data.length : Int) + (m.length : Int) > 4096 by omega), Bool.not_false, cT]
        by_cases h2 : x.ends.length + m.length ≤ 4096
        · rw [dF (show ¬ (x.ends.length : Int) + (m.length : Int) > 4096 by omega), cF, CopyArray_ok d x hd hx _ (by omega), bS, rd_get hi, bS, knd_get hi]
          by_cases hk : knd t i < 3
          · rw [dT hk, cT, dT (by omega), cT, idb_eq]
            exact AM_j8 (by omega) hx hb h0 (fun h => absurd hk h) h1 h2
          · rw [dF hk, cF, idb_eq]
            have := AM_j8 (k := d + 1999) (by omega) hx hb h0 (m := m) (d := []) (fun _ => rfl) (by simp; omega) h2
            rw [List.append_nil] at this
            exact this
        · rw [dT (show (x.ends.length : Int) + (m.length : Int) > 4096 by omega), cT]
      · rw [dT (show (x.data.length : Int) + (m.length : Int) > 4096 by omega), Bool.not_true, cF]
    · rw [show (x.layout != 0) = true by simpa using h0, Bool.not_true, cF]

end Go.Proofs.YtppmpfddcohkjaaP
