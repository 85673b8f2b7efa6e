/- Reading: what lies under a row that is not there is not looked at; the law ReadUnder, as the machine answers it; no condition but the sizes that a machine has. -/
import Derived.Test.YtppmpfddcohkjaaDoorPTx3
namespace Go.Proofs.YtppmpfddcohkjaaDoorP
open Go Go.Proofs.YtppmpfddcohkjaaDoorA

/-! ### Bits of four bytes -/
def V4 (bits : Int) : List UInt8 := strOfBytes [IntKind.u8.wrap bits, IntKind.u8.wrap (Int.fdiv bits (2 ^ (min 8 IntKind.i64.bits))), IntKind.u8.wrap (Int.fdiv bits (2 ^ (min 16 IntKind.i64.bits))), IntKind.u8.wrap (Int.fdiv bits (2 ^ (min 24 IntKind.i64.bits)))]
def offB (bits : Int) (j : Nat) : Bool := bitsOp .and .i64 (Int.fdiv bits (2 ^ (min j IntKind.i64.bits))) 1 == 0
theorem and1 (x : Int) : bitsOp .and .i64 x 1 = x % 2 := and_mask x 1 (by omega)
theorem and1_u8 {x : Int} : bitsOp .and .u8 x 1 = x % 2 := by
  rw [bitsOp_and, show (2 : Int) ^ IntKind.u8.bits = 256 from by decide, show ((1 : Int) % 256).toNat = 1 from by decide, Nat.and_one_is_mod, wu8]
  omega
theorem fdiv_pow (x : Int) (n : Nat) : Int.fdiv x (2 ^ n) = x / 2 ^ n := Int.fdiv_eq_ediv_of_nonneg _ (Int.le_of_lt (Int.pow_pos (by omega)))
theorem V4_get (bits : Int) {q : Nat} (hq : q < 4) : ∃ b, (V4 bits)[q]? = some b ∧ (b.toNat : Int) = (bits / 2 ^ (8 * q)) % 256 := by
  have key : ∀ c : Int, ((UInt8.ofNat (IntKind.u8.wrap c).toNat).toNat : Int) = c % 256 := by
    intro c
    rw [UInt8.toNat_ofNat', wu8]; omega
  rcases (by omega : q = 0 ∨ q = 1 ∨ q = 2 ∨ q = 3) with rfl | rfl | rfl | rfl
  · exact ⟨_, rfl, by rw [key]; simp⟩
  · exact ⟨_, rfl, by rw [key, fdiv_pow]; rfl⟩
  · exact ⟨_, rfl, by rw [key, fdiv_pow]; rfl⟩
  · exact ⟨_, rfl, by rw [key, fdiv_pow]; rfl⟩
theorem V4_there (bits : Int) {j : Nat} (hj : j < 32) : thereB (V4 bits) j = !offB bits j := by
  obtain ⟨b, h1, h2⟩ := V4_get bits (q := j / 8) (by omega)
  have hr : j % 8 < 8 := Nat.mod_lt _ (by omega)
  unfold thereB onB offB
  rw [h1, show (V4 bits == []) = false from rfl, Bool.false_or, and1, show min j IntKind.i64.bits = j from Nat.min_eq_left (by show j ≤ 64; omega), fdiv_pow]
  simp only
  rw [show min (j % 8) IntKind.u8.bits = j % 8 from Nat.min_eq_left (by show j % 8 ≤ 8; omega), fdiv_pow, and1_u8, h2]
  have e1 : bits / 2 ^ j = bits / 2 ^ (8 * (j / 8)) / 2 ^ (j % 8) := by
    rw [Int.ediv_ediv_of_nonneg (Int.le_of_lt (Int.pow_pos (by omega))), ← Int.pow_add, Nat.div_add_mod]
  rw [e1]
  generalize bits / 2 ^ (8 * (j / 8)) = c
  generalize j % 8 = r at hr
  have e2 : c % 256 / 2 ^ r % 2 = c / 2 ^ r % 2 := by
    rcases (by omega : r = 0 ∨ r = 1 ∨ r = 2 ∨ r = 3 ∨ r = 4 ∨ r = 5 ∨ r = 6 ∨ r = 7) with rfl | rfl | rfl | rfl | rfl | rfl | rfl | rfl
    · rw [show (2 : Int) ^ 0 = 1 from by decide]; omega
    · rw [show (2 : Int) ^ 1 = 2 from by decide]; omega
    · rw [show (2 : Int) ^ 2 = 4 from by decide]; omega
    · rw [show (2 : Int) ^ 3 = 8 from by decide]; omega
    · rw [show (2 : Int) ^ 4 = 16 from by decide]; omega
    · rw [show (2 : Int) ^ 5 = 32 from by decide]; omega
    · rw [show (2 : Int) ^ 6 = 64 from by decide]; omega
    · rw [show (2 : Int) ^ 7 = 128 from by decide]; omega
  rw [e2]
  rcases (by omega : c / 2 ^ r % 2 = 0 ∨ c / 2 ^ r % 2 = 1) with e | e <;> rw [e] <;> rfl

/-! ### Numbers, eight bytes each -/
def dat (f : Nat → Int) (m : Nat) : List UInt8 := ((List.range m).map fun j => w8 (f j)).flatten
theorem dat_succ (f : Nat → Int) (m : Nat) : dat f (m + 1) = dat f m ++ w8 (f m) := by unfold dat; rw [List.range_succ, List.map_append, List.flatten_append]; simp
theorem dat_len (f : Nat → Int) : ∀ m, (dat f m).length = 8 * m
  | 0 => rfl
  | m + 1 => by rw [dat_succ, List.length_append, dat_len f m, w8_length]; omega
theorem dat_at (f : Nat → Int) : ∀ {m j : Nat}, j < m → At (dat f m) (8 * j) (w8 (f j))
  | 0, _, h => by omega
  | m + 1, j, h => by
    rw [dat_succ]
    by_cases e : j = m
    · subst e
      exact ⟨dat f j, [], by simp, dat_len f j⟩
    · obtain ⟨pre, post, h1, h2⟩ := dat_at f (m := m) (j := j) (by omega)
      exact ⟨pre, post ++ w8 (f m), by rw [h1]; simp [List.append_assoc], h2⟩
def t0 : List Nod := [Nod.mk 0 (-1) true]
def arr0 (bits : Int) (f : Nat → Int) (m : Nat) : Arr := .mk 0 0 (m : Int) (V4 bits) [] (dat f m) []
theorem arr0_may (bits : Int) (f : Nat → Int) {m : Nat} (hm : m ≤ 32) : arrB t0 0 (arr0 bits f m) = true := by
  have hd := dat_len f m
  have hr : rowsN (arr0 bits f m) = m := by
    show (0 + (m : Int)).toNat = m
    omega
  rw [arrB_eq, show nodeB t0 0 = true from by kernel_rfl, show bufB (nul t0 (0 : Int).toNat) (arr0 bits f m) = true from bufB_iff.2 ⟨by show (0 : Int) ≤ 0; omega, by show (0 : Int) ≤ (m : Int); omega, by show (0 : Int) + (m : Int) ≤ 64; omega, by show 4 ≤ 4096; omega, by show 0 ≤ 4096; omega, by show (dat f m).length ≤ 4096; omega, .inr ⟨rfl, by
    show bitB (0 + (m : Int)) ≤ ((4 : Nat) : Int)
    unfold bitB; omega⟩⟩, if_pos (show (arr0 bits f m).layout = 0 from rfl)]
  have hk : kindM t0 (0 : Int).toNat (arr0 bits f m) = true := by
    unfold kindM
    rw [if_pos (by kernel_rfl), hr]
    show (([] : List UInt8) == [] && decide (8 * m ≤ (dat f m).length)) = true
    rw [dT (by omega)]
    rfl
  rw [hk]
  show (true && (true && (decide ((0 : Nat) = (kidsL t0 0).length) && ((List.range 0).all (fun j => arrB t0 (ksT t0 0 j) (kidA (arr0 bits f m) j)) && true)))) = true
  rw [show (kidsL t0 0).length = 0 from by kernel_rfl]
  rfl
theorem arr0_vals (bits : Int) (f : Nat → Int) {m : Nat} (hm : m ≤ 32) (hf : ∀ j, j < m → -9223372036854775808 ≤ f j ∧ f j ≤ 9223372036854775807) :
    valsT t0 0 (arr0 bits f m) = ((List.range m).map fun j => if offB bits j then [110] else intT (f j), 0) := by
  unfold valsT
  rw [if_pos (arr0_may bits f hm)]
  unfold valsA
  congr 1
  show List.map (fun i => valA 20 t0 0 (arr0 bits f m) (0 + i)) (List.range ((m : Int)).toNat) = _
  rw [Int.toNat_natCast]
  refine List.map_congr_left fun j hj => ?_
  have hj := List.mem_range.1 hj
  rw [Nat.zero_add, valA_succ]
  have ht : thereB (arr0 bits f m).valid j = !offB bits j := V4_there bits (by omega)
  rw [ht]
  cases ho : offB bits j with
  | true => rfl
  | false =>
    have hs := (dat_at f hj).slice
    rw [w8_length] at hs
    rw [if_neg (by simp), if_neg (show ¬ (arr0 bits f m).layout = 1 from by show ¬ (0 : Int) = 1; decide), if_neg (show ¬ (arr0 bits f m).layout = 2 from by show ¬ (0 : Int) = 2; decide), if_pos (by kernel_rfl)]
    show intT (numOf (((dat f m).take (8 * j + 8)).drop (8 * j))) = _
    rw [hs, numOf_w8 _ (hf j hj)]
    rfl
theorem arr0_roomy (bits : Int) (f : Nat → Int) {m : Nat} (hm : m ≤ 32) : RoomyA (arr0 bits f m) := by
  intro d
  have hd := dat_len f m
  cases d with
  | zero => trivial
  | succ d =>
    refine ⟨by show -9223372036854775808 ≤ (0 : Int) ∧ (0 : Int) ≤ 9223372036854775807; omega, by show -9223372036854775808 ≤ (m : Int) ∧ (m : Int) ≤ 9223372036854775807; omega, by show ((4 : Nat) : Int) ≤ 140737488351232; omega, by show ((0 : Nat) : Int) ≤ 140737488351232; omega,
      by show ((dat f m).length : Int) ≤ 140737488351232; omega, by show 0 * 96 ≤ 140737488351232; omega, fun k hk => ?_⟩
    cases hk

/-! ### The law -/
def bys (x : Int) (j : Nat) : List UInt8 := strOfBytes ((List.range j).map fun q => IntKind.u8.wrap (Int.fdiv x (2 ^ (min (8 * q) IntKind.i64.bits))))
theorem bys_8 (x : Int) : bys x 8 = w8 x := by kernel_rfl
theorem bys_succ (x : Int) (j : Nat) : bys x (j + 1) = bys x j ++ strOfBytes [IntKind.u8.wrap (Int.fdiv x (2 ^ (min (8 * j) IntKind.i64.bits)))] := by
  unfold bys
  rw [List.range_succ, List.map_append, strOfBytes_append]
  rfl
theorem bys_len (x : Int) (j : Nat) : (bys x j).length = j := by unfold bys; rw [strOfBytes_length, List.length_map, List.length_range]
theorem under_l2 {k m1 n : Nat} (hn : 9 ≤ n) (xs : List Int) (bits junk : Int) {i : Nat} (hi : i ≤ 100) (x y : Int) (v : List UInt8) (t : List Nod) {a b : List UInt8} {w : List (List UInt8)} (ha : a.length ≤ 2000) (hb : b.length ≤ 2000) (hw : w.length ≤ 1000) :
    quiverlaw9_ReadUnder.l2 idb k m1 n xs bits junk (i : Int) x y v 0 t a b w = quiverlaw9_ReadUnder.l0 idb k m1 xs bits junk ((i + 1 : Nat) : Int) t (a ++ w8 x) (b ++ w8 y) (w ++ [v]) := by
  have key := loop_up (F := fun n j => quiverlaw9_ReadUnder.l2 idb k m1 n xs bits junk (i : Int) x y v (j : Int) t (a ++ bys x j) (b ++ bys y j) w) (N := 8) (r := quiverlaw9_ReadUnder.l0 idb k m1 xs bits junk ((i + 1 : Nat) : Int) t (a ++ w8 x) (b ++ w8 y) (w ++ [v])) ?_ ?_ n 0 (by omega) (by omega)
  · have e1 : a ++ bys x 0 = a := List.append_nil a
    have e2 : b ++ bys y 0 = b := List.append_nil b
    rw [e1, e2] at key
    exact key
  · intro n j hj
    have l1 := bys_len x j
    have l2 := bys_len y j
    rw [quiverlaw9_ReadUnder.l2_eq, dT (by omega), cT, wi64 (8 * (j : Int)) (by omega), dF (by omega), cF, show (8 * (j : Int)).toNat = 8 * j by omega, dT (by rw [List.length_append, l1]; show a.length + j + 1 ≤ _; omega), cT, cF, dT (by rw [List.length_append, l2]; show b.length + j + 1 ≤ _; omega), cT, wsucc (by omega), bys_succ, bys_succ, List.append_assoc, List.append_assoc]
  · intro n
    rw [quiverlaw9_ReadUnder.l2_eq, dF (by omega), cF, append_room (by omega), cT, wsucc (by omega), bys_8, bys_8]
def Xf (xs : List Int) (j : Nat) : Int := xs.getD j 0
def Yf (xs : List Int) (bits junk : Int) (j : Nat) : Int := if offB bits j then bitsOp .xor .i64 (Xf xs j) junk else Xf xs j
def Vf (xs : List Int) (bits : Int) (j : Nat) : List UInt8 := if offB bits j then [110] else intT (Xf xs j)
theorem pure_ReadUnder (xs : List Int) (bits junk : Int) (ho : ∀ x ∈ xs, -9223372036854775808 ≤ x ∧ x ≤ 9223372036854775807) : ∃ k, quiverlaw9_ReadUnder.f idb k xs bits junk = some true := by
  refine ⟨2000 + 1, ?_⟩
  have hX : ∀ j, j < xs.length → -9223372036854775808 ≤ Xf xs j ∧ Xf xs j ≤ 9223372036854775807 := by
    intro j hj
    unfold Xf
    rw [List.getD_eq_getElem?_getD, List.getElem?_eq_getElem hj]
    exact ho _ (List.getElem_mem hj)
  have hY : ∀ j, j < xs.length → -9223372036854775808 ≤ Yf xs bits junk j ∧ Yf xs bits junk j ≤ 9223372036854775807 := by
    intro j hj
    unfold Yf
    split
    · unfold bitsOp; simp only; rw [IntKind.wrap_i64]; omega
    · exact hX j hj
  rw [quiverlaw9_ReadUnder.f_eq, awake9' (by omega), bS, Bool.not_true, cF]
  have fin : ∀ m, m ≤ xs.length → m ≤ 32 → ((read_Values.f idb 2000 t0 0 (arr0 bits (Xf xs) m)).bind fun r_4 =>
      (read_Values.f idb 2000 t0 0 (arr0 bits (Yf xs bits junk) m)).bind fun r_5 =>
      (quiverlaw0_Num.f idb 2000 r_4.2).bind fun r_6 =>
      bif (r_6 == 0) then
       (quiverlaw0_Num.f idb 2000 r_5.2).bind fun r_7 =>
       bif (r_7 == 0) then
        (quiverlaw0_SameTexts.f idb 2000 r_4.1 ((List.range m).map (Vf xs bits))).bind fun r_8 =>
        bif r_8 then
         (quiverlaw0_SameTexts.f idb 2000 r_5.1 ((List.range m).map (Vf xs bits))).bind fun r_9 =>
         some r_9
        else
         some false
       else
        some false
      else
       some false) = some true := by
    intro m hm h32
    have eY : ((List.range m).map fun j => if offB bits j then [110] else intT (Yf xs bits junk j)) = (List.range m).map (Vf xs bits) := by
      refine List.map_congr_left fun j _ => ?_
      unfold Yf Vf
      cases offB bits j <;> rfl
    have eX : ((List.range m).map fun j => if offB bits j then [110] else intT (Xf xs j)) = (List.range m).map (Vf xs bits) := rfl
    have hl : ((List.range m).map (Vf xs bits)).length = m := by rw [List.length_map, List.length_range]
    rw [read_Values_ok (arr0_roomy bits _ h32) (by omega), bS, read_Values_ok (arr0_roomy bits _ h32) (by omega), bS, arr0_vals bits _ h32 (fun j hj => hX j (by omega)), arr0_vals bits _ h32 (fun j hj => hY j (by omega)), eY, eX]
    simp only
    rw [Num_ok (by omega), bS, BEq.rfl, cT, bS, BEq.rfl, cT, SameTexts_refl _ (by omega) (by omega), bS, cT, bS]
  have key := loop_up (F := fun n i => quiverlaw9_ReadUnder.l0 idb 2000 n xs bits junk (i : Int) t0 (dat (Xf xs) i) (dat (Yf xs bits junk) i) ((List.range i).map (Vf xs bits))) (N := min xs.length 32) (r := some true) ?_ ?_ 2000 0 (by omega) (by omega)
  · exact key
  · intro n i hi
    have h1 : i < xs.length := by omega
    have hr := rd_get h1
    have eX : xs[i] = Xf xs i := by unfold Xf; rw [List.getD_eq_getElem?_getD, List.getElem?_eq_getElem h1]; rfl
    have hx := hX i h1
    have d1 := dat_len (Xf xs) i
    have d2 := dat_len (Yf xs bits junk) i
    rw [quiverlaw9_ReadUnder.l0_eq, dT (by omega), cT, dT (by omega), cT, hr, bS, bS, eX, Int_ok (by omega) hx.1 hx.2, bS, dF (by omega), cF, Int.toNat_natCast]
    have hbar : ∀ (x : Option Bool), idb Bool x = x := fun _ => rfl
    have eo : (bitsOp .and .i64 (Int.fdiv bits (2 ^ (min i IntKind.i64.bits))) 1 == 0) = offB bits i := rfl
    rw [eo, hbar, hbar]
    have eV : (List.range (i + 1)).map (Vf xs bits) = (List.range i).map (Vf xs bits) ++ [Vf xs bits i] := by rw [List.range_succ, List.map_append]; rfl
    rw [dat_succ, dat_succ, eV]
    cases hb : offB bits i with
    | true =>
      rw [cT, quiverlaw9_ReadUnder.j15_eq, under_l2 (by omega) xs bits junk (by omega) _ _ _ t0 (by omega) (by omega) (by simp; omega)]
      rw [show Yf xs bits junk i = bitsOp .xor .i64 (Xf xs i) junk from by unfold Yf; rw [hb, if_pos rfl], show Vf xs bits i = [110] from by unfold Vf; rw [hb, if_pos rfl]]
    | false =>
      rw [cF, quiverlaw9_ReadUnder.j15_eq, under_l2 (by omega) xs bits junk (by omega) _ _ _ t0 (by omega) (by omega) (by simp; omega)]
      rw [show Yf xs bits junk i = Xf xs i from by unfold Yf; rw [hb, if_neg (by simp)], show Vf xs bits i = intT (Xf xs i) from by unfold Vf; rw [hb, if_neg (by simp)]]
  · intro n
    rw [quiverlaw9_ReadUnder.l0_eq]
    by_cases h1 : xs.length ≤ 32
    · rw [dF (by omega), cF]
      exact fin _ (by omega) (by omega)
    · rw [dT (by omega), cT, dF (by omega), cF]
      exact fin _ (by omega) (by omega)

end Go.Proofs.YtppmpfddcohkjaaDoorP
