/- What the program gets out of a page: its answer in plain lists; no condition but the sizes that a machine has. Getting a page: what is got was put, and what was put is got; the law PageAgain; no condition but the sizes that a machine has. Getting a page: what is refused at once; small numbers; the document's sum; no condition but the sizes that a machine has. What is put is got: a page's column; no condition but the sizes that a machine has. -/
import Derived.Test.YtjkokaockhecnaaGreatDoorPPg6
namespace Go.Proofs.YtjkokaockhecnaaGreatDoorP
open Go Go.Proofs.YtjkokaockhecnaaGreatDoorA

/-! ### Sums are numbers of 32 bits -/
theorem u32_range (n : Int) : 0 ≤ IntKind.u32.wrap n ∧ IntKind.u32.wrap n ≤ 4294967295 := by
  simp [IntKind.wrap, IntKind.bits, IntKind.signed]; omega
theorem crcS_range (s : List UInt8) : 0 ≤ crcS s ∧ crcS s ≤ 4294967295 := by
  unfold crcS
  have h : ∀ x y, 0 ≤ bitsOp .xor .u32 x y ∧ bitsOp .xor .u32 x y ≤ 4294967295 := fun x y => by unfold bitsOp; exact u32_range _
  have := h (s.foldl crcB 4294967295) 4294967295
  rw [wi64 _ (by omega)]; exact this
theorem numOf_w4' {x : Int} (h : 0 ≤ x ∧ x ≤ 4294967295) : numOf (w4 x) = x := by
  unfold numOf
  rw [val_w4 x ⟨h.1, by omega⟩, wi64 _ (by omega)]

/-! ### The taker's parts -/
theorem tBytes_ok {k : Nat} (hk : 1 ≤ k) (r : List UInt8) (bad : Bool) (n : Int) : page_Taker_Bytes.f idb k r bad n =
    some (if bad = false ∧ 0 ≤ n ∧ n ≤ (r.length : Int) then (r.take n.toNat, (r.drop n.toNat, false)) else ([], (r, true))) := by
  obtain ⟨k, rfl⟩ : ∃ q, k = q + 1 := ⟨k - 1, by omega⟩
  rw [page_Taker_Bytes.f_eq]
  cases bad with
  | true => simp
  | false =>
    rw [Bool.not_false, cT]
    by_cases h0 : n < 0
    · rw [dT h0, Bool.not_true, cF, if_neg (by omega)]
    · rw [dF h0, Bool.not_false, cT]
      by_cases h1 : n > (r.length : Int)
      · rw [dT h1, cT, if_neg (by omega)]
      · rw [dF h1, cF, dT (show (0 : Int) ≤ n by omega), dT (show n ≤ (r.length : Int) by omega), Bool.and_self, cT, cT, if_pos ⟨rfl, by omega, by omega⟩, List.drop_zero, List.take_length]
theorem get_len {r : List UInt8} (h : (get r 0 4).2 = 0) : 4 ≤ r.length := by
  unfold get at h
  split at h
  · rename_i hc; omega
  · cases h
theorem tNumber_ok {k : Nat} (hk : 20 ≤ k) {r : List UInt8} (hr : r.length ≤ 200000000000000) (bad : Bool) : page_Taker_Number.f idb k r bad =
    some ((get r 0 4).1, if bad = false ∧ (get r 0 4).2 = 0 then (r.drop 4, false) else (r, true)) := by
  obtain ⟨k, rfl⟩ : ∃ q, k = q + 1 := ⟨k - 1, by omega⟩
  rw [page_Taker_Number.f_eq, num_Get_ok (by omega) r (by omega) 0 4 (by omega), bS]
  cases bad with
  | true => rw [Bool.not_true, cF, tBytes_ok (by omega), bS, if_neg (by simp), if_neg (by simp)]
  | false =>
    rw [Bool.not_false, cT, tBytes_ok (by omega), bS]
    by_cases h : (get r 0 4).2 = 0
    · have hl := get_len h
      rw [h, if_pos ⟨rfl, by omega, by omega⟩, if_pos ⟨rfl, rfl⟩]
      rfl
    · rw [show ((get r 0 4).2 != 0) = true by rw [bne_iff_ne]; exact h, if_neg (by simp), if_neg (by simp [h])]
theorem vInt_ok {k : Nat} (hk : 2 ≤ k) {x : Int} (h : In64 x) : value_Int.f idb k x = some (intT x) := by
  obtain ⟨k, rfl⟩ : ∃ q, k = q + 1 := ⟨k - 1, by omega⟩
  have hl := digT_len x
  rw [value_Int.f_eq, vItoa_ok (by omega) h, bS, dT (by simp only [List.length_cons, List.length_nil]; omega), cT, dT (by simp only [List.length_append, List.length_cons, List.length_nil]; omega), cT]
  rfl
theorem vBool_ok {k : Nat} (hk : 1 ≤ k) (b : Bool) : value_Bool.f idb k b = some (boolT b) := by
  obtain ⟨k, rfl⟩ : ∃ q, k = q + 1 := ⟨k - 1, by omega⟩
  rw [value_Bool.f_eq]; cases b <;> rfl
theorem vBytes_ok {k : Nat} (hk : 2 ≤ k) {l : List UInt8} (h : l.length ≤ 200000000000000) : value_Bytes.f idb k l = some (bytesT l) := by
  obtain ⟨k, rfl⟩ : ∃ q, k = q + 1 := ⟨k - 1, by omega⟩
  have hl := dec_len l.length
  rw [value_Bytes.f_eq, vItoa_ok (by omega) (by unfold In64; omega), bS, digT_nat, dT (by simp only [List.length_cons, List.length_nil]; omega), cT, dT (by simp only [List.length_append, List.length_cons, List.length_nil]; omega), cT, dT (by simp only [List.length_append, List.length_cons, List.length_nil]; omega), cT]
  rfl
theorem tValue_pb {k : Nat} (hk : 40 ≤ k) {t : List Nod} {i : Nat} {v rest : List UInt8} (h : vOk t (i : Int) v = true) (hl : rest.length ≤ 100000000000000) : page_Taker_value.f idb k (pgB v ++ rest) false (knd t i) = some (v, (rest, false)) := by
  obtain ⟨k, rfl⟩ : ∃ q, k = q + 1 := ⟨k - 1, by omega⟩
  rw [page_Taker_value.f_eq]
  rcases PB.kind h with ⟨e, x, hx, rfl, ev⟩ | ⟨e, b, rfl, ev⟩ | ⟨e, l, h16, rfl, ev⟩
  · rw [e, ev]
    simp only [show ((0 : Int) == 0) = true from rfl, cT]
    have e8 := w8_length x
    rw [tBytes_ok (by omega), bS, if_pos ⟨rfl, by omega, by rw [List.length_append, e8]; omega⟩]
    simp only
    rw [show (8 : Int).toNat = (w8 x).length from e8.symm, List.take_left', List.drop_left', num_Of_ok (by omega) _ (by rw [e8]; omega), bS, numOf_w8 x hx, vInt_ok (by omega) hx, bS]
    · rfl
    · rfl
  · rw [e, ev]
    simp only [show ((1 : Int) == 0) = false from rfl, show ((1 : Int) == 1) = true from rfl, cT, cF]
    rw [tBytes_ok (by omega), bS, if_pos ⟨rfl, by omega, by rw [List.length_append]; show (1 : Int) ≤ ((1 + rest.length : Nat) : Int); omega⟩]
    simp only
    rw [show (1 : Int).toNat = (wd1 (if b then 1 else 0)).length from rfl, List.take_left', List.drop_left', num_Of_ok (by omega) _ (by show 1 ≤ 8; omega), bS, vBool_ok (by omega), bS]
    · cases b <;> rfl
    · rfl
    · rfl
  · rw [e, ev]
    simp only [show ((2 : Int) == 0) = false from rfl, show ((2 : Int) == 1) = false from rfl, cF]
    obtain ⟨k, rfl⟩ : ∃ q, k = q + 1 := ⟨k - 1, by omega⟩
    have hg := get_w4 [] (l ++ rest) (l.length : Int) (may_iff.2 ⟨by omega, by omega⟩)
    simp only [List.nil_append, List.length_nil] at hg
    rw [show ((0 : Nat) : Int) = 0 from rfl] at hg
    rw [List.append_assoc, page_Taker_Text.f_eq, tNumber_ok (by omega) (by simp only [List.length_append, w4_length]; omega), bS, hg]
    simp only
    rw [if_pos ⟨trivial, trivial⟩]
    simp only
    rw [show (4 : Nat) = (w4 (l.length : Int)).length from rfl, List.drop_left', tBytes_ok (by omega), bS, if_pos ⟨rfl, by omega, by rw [List.length_append]; omega⟩, bS]
    · simp only
      rw [Int.toNat_natCast, List.take_left', List.drop_left', vBytes_ok (by omega) (by omega), bS]
      · rfl
      · rfl
    · rfl

end Go.Proofs.YtjkokaockhecnaaGreatDoorP

namespace Go.Proofs.YtjkokaockhecnaaGreatDoorP
open Go Go.Proofs.YtjkokaockhecnaaGreatDoorA

/-- Nothing got. -/
def noCol : List Int × List Int × List (List UInt8) := ([], [], [])
def colOf (c : Col) : List Int × List Int × List (List UInt8) := (c.reps, c.defs, c.values)
/-- The end of getting. -/
theorem Get_end {k n : Nat} {t : List Nod} {a : Int} {s : List UInt8} {e f : Int} {m : Nat} {c : Col} {r : List UInt8} {bad : Bool} (hk : 1200100 + c.values.length ≤ k) (hl : c.values.length ≤ 20000000000000) (hd : c.reps.length ≤ 20000000000000 ∧ c.defs.length ≤ 20000000000000) :
    page_Get.l0 idb k (n + 1) a s e f (m : Int) (m : Int) t c.reps c.defs c.values r bad = some (if bad = false ∧ e = 0 ∧ f = 0 ∧ putP t a c = (s, 0) then (colOf c, 0) else (noCol, 2200)) := by
  rw [page_Get.l0_eq, dF (by omega), cF]
  have hc : (Col.mk c.reps c.defs c.values) = c := by cases c; rfl
  rw [hc, page_Put_ok hk hl hd, bS]
  cases bad with
  | true => rw [Bool.not_true, cF, if_neg (by simp)]; rfl
  | false =>
    rw [Bool.not_false, cT]
    by_cases h1 : e = 0
    · rw [h1, show ((0 : Int) != 0) = false from rfl, Bool.not_false, cT]
      by_cases h2 : f = 0
      · rw [h2, show ((0 : Int) != 0) = false from rfl, Bool.not_false, cT]
        by_cases h3 : (putP t a c).2 = 0
        · rw [h3, show ((0 : Int) != 0) = false from rfl, Bool.not_false, cT]
          by_cases h4 : (putP t a c).1 = s
          · rw [show ((putP t a c).1 != s) = false by rw [h4]; simp, cF, if_pos ⟨rfl, rfl, rfl, Prod.ext h4 h3⟩]; rfl
          · rw [show ((putP t a c).1 != s) = true by rw [bne_iff_ne]; exact h4, cT, if_neg (by rintro ⟨_, _, _, h⟩; exact h4 (by rw [h]))]; rfl
        · rw [show ((putP t a c).2 != 0) = true by rw [bne_iff_ne]; exact h3, Bool.not_true, cF, if_neg (by rintro ⟨_, _, _, h⟩; exact h3 (by rw [h]))]; rfl
      · rw [show (f != 0) = true by rw [bne_iff_ne]; exact h2, Bool.not_true, cF, if_neg (by rintro ⟨_, _, h, _⟩; exact h2 h)]; rfl
    · rw [show (e != 0) = true by rw [bne_iff_ne]; exact h1, Bool.not_true, cF, if_neg (by rintro ⟨_, h, _⟩; exact h1 h)]; rfl
end Go.Proofs.YtjkokaockhecnaaGreatDoorP

namespace Go.Proofs.YtjkokaockhecnaaGreatDoorP
open Go Go.Proofs.YtjkokaockhecnaaGreatDoorA

theorem Get_less {k : Nat} (hk : 40 ≤ k) {t : List Nod} {a : Int} {s : List UInt8} (h4 : s.length < 4) : page_Get.f idb k t a s = some (noCol, 2200) := by
  obtain ⟨k, rfl⟩ : ∃ q, k = q + 1 := ⟨k - 1, by omega⟩
  rw [page_Get.f_eq, Leaf_ok (by omega), bS]
  cases hn : nodeB t a && !inner (knd t a.toNat) with
  | false => rfl
  | true => rw [Bool.not_true, Bool.not_false, cT, dT (by omega), cT]; rfl
/-! ### The document's sum -/
end Go.Proofs.YtjkokaockhecnaaGreatDoorP

namespace Go.Proofs.YtjkokaockhecnaaGreatDoorP
open Go Go.Proofs.YtjkokaockhecnaaGreatDoorA

theorem tNumber_w4 {k : Nat} (hk : 20 ≤ k) {n : Nat} (hn : n ≤ 1000000000) {r : List UInt8} (hr : r.length ≤ 100000000000000) : page_Taker_Number.f idb k (w4 (n : Int) ++ r) false = some ((n : Int), (r, false)) := by
  have hg := get_w4 [] r (n : Int) (may_iff.2 ⟨by omega, by omega⟩)
  simp only [List.nil_append, List.length_nil] at hg
  rw [show ((0 : Nat) : Int) = 0 from rfl] at hg
  rw [tNumber_ok hk (by simp only [List.length_append, w4_length]; omega), hg]
  simp only
  rw [if_pos ⟨trivial, trivial⟩, show (4 : Nat) = (w4 (n : Int)).length from rfl, List.drop_left']
  rfl
theorem tBytes_app {k : Nat} (hk : 1 ≤ k) (x r : List UInt8) : page_Taker_Bytes.f idb k (x ++ r) false (x.length : Int) = some (x, (r, false)) := by
  rw [tBytes_ok hk, if_pos ⟨rfl, by omega, by rw [List.length_append]; omega⟩, Int.toNat_natCast, List.take_left', List.drop_left'] <;> rfl
theorem Get_l0_put {k : Nat} {t : List Nod} {i : Nat} (hi : i < t.length) {s : List UInt8} {R D : List Int} {vs : List (List UInt8)} (hv : ∀ v ∈ vs, vOk t (i : Int) v = true) (hm : vs.length ≤ 4096) (hR : R.length ≤ 5000 ∧ D.length ≤ 5000) (hk : 1300000 ≤ k)
    (hput : putP t (i : Int) ⟨R, D, vs⟩ = (s, 0)) : ∀ (d j n : Nat), j + d = vs.length → d + 1 ≤ n →
      page_Get.l0 idb k n (i : Int) s 0 0 (vs.length : Int) (j : Int) t R D (vs.take j) (((vs.drop j).map pgB).flatten) false = some ((R, D, vs), 0)
  | 0, j, n, hj, hn => by
    obtain ⟨n, rfl⟩ : ∃ q, n = q + 1 := ⟨n - 1, by omega⟩
    have hjm : j = vs.length := by omega
    subst hjm
    rw [List.take_length]
    have := Get_end (k := k) (n := n) (t := t) (a := (i : Int)) (s := s) (e := 0) (f := 0) (m := vs.length) (c := ⟨R, D, vs⟩) (r := ((vs.drop vs.length).map pgB).flatten) (bad := false) (by simp only; omega) (by simp only; omega) (by simp only; omega)
    rw [if_pos ⟨rfl, rfl, rfl, hput⟩] at this
    exact this
  | d + 1, j, n, hj, hn => by
    obtain ⟨n, rfl⟩ : ∃ q, n = q + 1 := ⟨n - 1, by omega⟩
    have hjv : j < vs.length := by omega
    have hfl := pgflat_len (vs := vs.drop (j + 1)) fun v h => vOk_pb (hv v (List.mem_of_mem_drop h))
    rw [List.length_drop] at hfl
    rw [page_Get.l0_eq, dT (by omega), cT, Bool.not_false, cT, rd_get hi, bS, knd_get hi, List.drop_eq_getElem_cons hjv, List.map_cons, List.flatten_cons, tValue_pb (by omega) (hv _ (List.getElem_mem hjv)) (by omega), bS,
      dT (by simp only [List.length_take, List.length_cons, List.length_nil]; omega), cT, wsucc (by omega)]
    have e : vs.take j ++ [vs[j]] = vs.take (j + 1) := (List.take_succ_eq_append_getElem hjv).symm
    rw [e]
    exact Get_l0_put hi hv hm hR hk hput d (j + 1) n (by omega) (by omega)
theorem Get_back {k : Nat} {t : List Nod} {a : Int} {c : Col} (hk : 1600000 ≤ k) (hm : colMay t a c = true) : page_Get.f idb k t a (putP t a c).1 = some (colOf c, 0) := by
  obtain ⟨k, rfl⟩ : ∃ q, k = q + 1 := ⟨k - 1, by omega⟩
  obtain ⟨i, rfl, hi, hmt, hn, hin, h1, h2, h3, h4, h5, h6⟩ := colMay_parts hm
  have hvl := colMay_vlen hm
  obtain ⟨r0, r1, d0, d1⟩ := lev_range (t := t) (a := (i : Int))
  obtain ⟨pr, _, hr⟩ := lvB_put r1 h3 h2
  obtain ⟨pd, _, hdl⟩ := lvB_put d1 h4 (by omega)
  have hfl := pgflat_len fun v h => vOk_pb (h5 v h)
  have hs : (putP t (i : Int) c).1 = w4 (crcS (pgBody t (i : Int) c)) ++ pgBody t (i : Int) c := by unfold putP; rw [if_pos hm]
  have hput : putP t (i : Int) ⟨c.reps, c.defs, c.values⟩ = ((putP t (i : Int) c).1, 0) := Prod.ext rfl (putP_ok hm)
  have hbody : pgBody t (i : Int) c = w4 ((c.reps.length : Nat) : Int) ++ (w4 (((lvB (levT t (i : Int)).1 c.reps).length : Nat) : Int) ++ (w4 (((lvB (levT t (i : Int)).2.1 c.defs).length : Nat) : Int) ++ (lvB (levT t (i : Int)).1 c.reps ++ (lvB (levT t (i : Int)).2.1 c.defs ++ (c.values.map pgB).flatten)))) := by
    unfold pgBody pgHead
    simp only [List.append_assoc]
  have hbl : (pgBody t (i : Int) c).length ≤ 400000 := by rw [hbody]; simp only [List.length_append, w4_length]; omega
  generalize hS : (putP t (i : Int) c).1 = s at hs hput
  generalize pgBody t (i : Int) c = B at hs hbl hbody
  have h4' : List.take 4 s = w4 (crcS B) := by rw [hs, show (4 : Nat) = (w4 (crcS B)).length from rfl, List.take_left']; rfl
  have h4d : List.drop 4 s = B := by rw [hs, show (4 : Nat) = (w4 (crcS B)).length from rfl, List.drop_left']; rfl
  have hsl : s.length = 4 + B.length := by rw [hs, List.length_append, w4_length]
  rw [page_Get.f_eq, Leaf_ok (by omega), bS, Int.toNat_natCast, hn, hin, Bool.not_false, Bool.and_self, Bool.not_true, Bool.not_false, cT, dF (by omega), cF, dT (by omega), dT (by omega), Bool.and_self, cT, List.drop_zero, num_Of_ok (by omega) _ (by rw [List.length_take]; omega), bS, cT, List.take_length, crc_ok (by rw [List.length_drop]; omega) (by rw [List.length_drop]; omega), bS]
  rw [h4', h4d, numOf_w4' (crcS_range B), show (crcS B != crcS B) = false by simp, cF, types_Levels_ok (by omega), bS, cT, hbody]
  rw [tNumber_w4 (by omega) (by omega) (by simp only [List.length_append, w4_length]; omega), bS]
  simp only
  rw [tNumber_w4 (by omega) (by omega) (by simp only [List.length_append, w4_length]; omega), bS]
  simp only
  rw [tNumber_w4 (by omega) (by omega) (by simp only [List.length_append]; omega), bS]
  simp only
  rw [tBytes_app (by omega), bS]
  simp only
  rw [Len_ok (by omega) r0 r1, bS, Get_put (by omega) pr (by omega), bS]
  simp only
  rw [tBytes_app (by omega), bS]
  simp only
  rw [Len_ok (by omega) d0 d1, bS, h1, Get_put (by omega) pd (by omega), bS]
  simp only
  rw [there_ok' (by omega) (by omega), bS, ← h6]
  exact Get_l0_put hi h5 (by omega) (by omega) (by omega) hput c.values.length 0 k (by omega) (by omega)

end Go.Proofs.YtjkokaockhecnaaGreatDoorP
