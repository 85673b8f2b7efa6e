/- What the functions below the laws answer, in plain lists and numbers; no condition but the sizes that a machine has. -/
import Derived.Test.YtppmpfddcohkjaaGreatDoorPBase2
import Derived.Laws.BitsLemmas
import Derived.KernelRfl
import Derived.Lib.ItoaNum
import Derived.Lib.Join
namespace Go.Proofs.YtppmpfddcohkjaaGreatDoorP
open Go Go.Proofs.YtppmpfddcohkjaaGreatDoorA

def T (g : Nat → Nat) (p c : Nat) : Nat := ((List.range' p c).map g).sum
theorem T_nil (g : Nat → Nat) (p : Nat) : T g p 0 = 0 := rfl
theorem T_succ (g : Nat → Nat) (p c : Nat) : T g p (c + 1) = g p + T g (p + 1) c := by
  unfold T; rw [List.range'_succ, List.map_cons, List.sum_cons]
theorem T_append (g : Nat → Nat) : ∀ (c p d : Nat), T g p (c + d) = T g p c + T g (p + c) d
  | 0, p, d => by rw [Nat.zero_add, T_nil, Nat.add_zero p]; omega
  | c + 1, p, d => by
    rw [show c + 1 + d = (c + d) + 1 by omega, T_succ, T_succ, T_append g c (p + 1) d, show p + 1 + c = p + (c + 1) by omega]; omega
theorem T_le {g h : Nat → Nat} : ∀ (c p : Nat), (∀ j, p ≤ j → j < p + c → g j ≤ h j) → T g p c ≤ T h p c
  | 0, _, _ => Nat.le_refl _
  | c + 1, p, H => by
    have h1 := H p (Nat.le_refl _) (by omega)
    have h2 := T_le c (p + 1) fun j a b => H j (by omega) (by omega)
    rw [T_succ, T_succ]; omega
theorem T_add (g h : Nat → Nat) : ∀ (c p : Nat), T (fun j => g j + h j) p c = T g p c + T h p c
  | 0, _ => rfl
  | c + 1, p => by rw [T_succ, T_succ, T_succ, T_add g h c (p + 1)]; omega
theorem T_const (B : Nat) : ∀ (c p : Nat), T (fun _ => B) p c = c * B
  | 0, _ => by rw [T_nil, Nat.zero_mul]
  | c + 1, p => by rw [T_succ, T_const B c (p + 1), Nat.add_mul]; omega
theorem T_zero {g : Nat → Nat} (c p : Nat) (h : ∀ j, p ≤ j → j < p + c → g j = 0) : T g p c = 0 := by
  have := T_le (g := g) (h := fun _ => 0) c p fun j a b => by rw [h j a b]; exact Nat.le_refl _
  rw [T_const] at this; omega
theorem T_congr {g h : Nat → Nat} (c p : Nat) (H : ∀ j, p ≤ j → j < p + c → g j = h j) : T g p c = T h p c :=
  Nat.le_antisymm (T_le c p fun j a b => Nat.le_of_eq (H j a b)) (T_le c p fun j a b => Nat.le_of_eq (H j a b).symm)
/-- Neighbouring ranges, one behind the other. -/
theorem T_ranges (g : Nat → Nat) (e : Nat → Nat) : ∀ (c p : Nat), (∀ j, p ≤ j → j < p + c → e j ≤ e (j + 1)) → T (fun j => T g (e j) (e (j + 1) - e j)) p c = T g (e p) (e (p + c) - e p) ∧ e p ≤ e (p + c)
  | 0, p, _ => by simp [T_nil]
  | c + 1, p, H => by
    obtain ⟨h1, h2⟩ := T_ranges g e c (p + 1) fun j a b => H j (by omega) (by omega)
    have h3 := H p (Nat.le_refl _) (by omega)
    rw [show p + 1 + c = p + (c + 1) by omega] at h1 h2
    refine ⟨?_, by omega⟩
    rw [T_succ, h1, show e (p + (c + 1)) - e p = (e (p + 1) - e p) + (e (p + (c + 1)) - e (p + 1)) by omega, T_append, show e p + (e (p + 1) - e p) = e (p + 1) by omega]
/-- Sums of sums change places. -/
theorem T_sum {α : Type} (g : α → Nat → Nat) (p c : Nat) : ∀ l : List α, T (fun j => (l.map fun x => g x j).sum) p c = (l.map fun x => T (g x) p c).sum
  | [] => by simp [T_const]
  | x :: l => by
    have := T_sum g p c l
    simp only [List.map_cons, List.sum_cons]
    rw [T_add, this]
theorem sum_le {α : Type} {g h : α → Nat} : ∀ (l : List α), (∀ x ∈ l, g x ≤ h x) → (l.map g).sum ≤ (l.map h).sum
  | [], _ => Nat.le_refl _
  | x :: l, H => by
    have h1 := H x List.mem_cons_self
    have h2 := sum_le l fun y hy => H y (List.mem_cons_of_mem _ hy)
    simp only [List.map_cons, List.sum_cons]; omega
theorem sum_mul {α : Type} (g : α → Nat) (B : Nat) : ∀ (l : List α), (l.map fun x => B * g x).sum = B * (l.map g).sum
  | [] => by simp
  | x :: l => by simp only [List.map_cons, List.sum_cons, sum_mul g B l, Nat.mul_add]
def wt (t : List Nod) : Nat → Int → Nat
  | 0, _ => 1
  | f + 1, a => 1 + ((kidsL t a).map (wt t f)).sum
theorem wt_mono (t : List Nod) : ∀ (f : Nat) (a : Int), wt t f a ≤ wt t (f + 1) a
  | 0, a => by simp only [wt]; omega
  | f + 1, a => by
    have := sum_le (g := wt t f) (h := wt t (f + 1)) (kidsL t a) fun b _ => wt_mono t f b
    show 1 + ((kidsL t a).map (wt t f)).sum ≤ 1 + ((kidsL t a).map (wt t (f + 1))).sum
    omega
theorem sum_kids (t : List Nod) (a : Int) (g : Int → Nat) : ∀ i, ((kidsU t a i).map g).sum = T (fun j => if 0 < j ∧ par t j = a then g (j : Int) else 0) 0 i
  | 0 => by simp [kidsU, T_nil]
  | i + 1 => by
    have ih := sum_kids t a g i
    rw [kidsU_succ, T_append _ i 0 1, ← ih, T_succ, T_nil, Nat.zero_add]
    split
    · rw [List.map_append, List.sum_append]; simp
    · simp
/-- Those from a place on whose parents are ahead of it. -/
def front (t : List Nod) (f m : Nat) : Nat := T (fun b => if par t b < (m : Int) then wt t f (b : Int) else 0) m (t.length - m)
theorem front_le {t : List Nod} (hm : mayT t = true) (f : Nat) : ∀ (d m : Nat), m + d = t.length → front t f m ≤ d
  | 0, m, h => by unfold front; rw [show t.length - m = 0 by omega, T_nil]; exact Nat.le_refl _
  | d + 1, m, h => by
    have ih := front_le hm f d (m + 1) (by omega)
    have hs := mayT_stands hm
    unfold front at ih ⊢
    rw [show t.length - m = d + 1 by omega, T_succ]
    rw [show t.length - (m + 1) = d by omega] at ih
    have split_ : T (fun b => if par t b < ((m + 1 : Nat) : Int) then wt t f (b : Int) else 0) (m + 1) d = T (fun b => if par t b < (m : Int) then wt t f (b : Int) else 0) (m + 1) d + T (fun b => if 0 < b ∧ par t b = (m : Int) then wt t f (b : Int) else 0) (m + 1) d := by
      rw [← T_add]
      refine T_congr _ _ fun j hj _ => ?_
      by_cases h1 : par t j < (m : Int)
      · rw [if_pos (by omega), if_pos h1, if_neg (by omega)]; omega
      · rw [if_neg h1]
        by_cases h2 : par t j = (m : Int)
        · rw [if_pos (by omega), if_pos ⟨by omega, h2⟩]; omega
        · rw [if_neg (by omega), if_neg (by omega)]
    rw [split_] at ih
    have kids : ((kidsL t (m : Int)).map (wt t f)).sum = T (fun b => if 0 < b ∧ par t b = (m : Int) then wt t f (b : Int) else 0) (m + 1) d := by
      have e := sum_kids t (m : Int) (wt t f) t.length
      unfold kidsL
      rw [e, show t.length = (m + 1) + d by omega, T_append, T_zero (m + 1) 0 (fun j _ hj => ?_), Nat.zero_add, Nat.zero_add]
      rw [if_neg]
      rintro ⟨h1, h2⟩
      have := (hs.up (i := j) (by omega))
      omega
    have hw : wt t f (m : Int) ≤ 1 + ((kidsL t (m : Int)).map (wt t f)).sum := wt_mono t f (m : Int)
    have : (if par t m < (m : Int) then wt t f (m : Int) else 0) ≤ wt t f (m : Int) := by split <;> omega
    omega
theorem wt_le {t : List Nod} (hm : mayT t = true) (f : Nat) {i : Nat} (hi : i < t.length) : wt t f (i : Int) ≤ 8 := by
  have h := front_le hm f (t.length - i) i (by omega)
  have htl := mayT_length hm
  unfold front at h
  obtain ⟨d, hd⟩ : ∃ d, t.length - i = d + 1 := ⟨t.length - i - 1, by omega⟩
  rw [hd, T_succ] at h
  have hp : par t i < (i : Int) := ((mayT_stands hm).up hi).1
  rw [if_pos hp] at h
  omega
theorem T_shift (g : Nat → Nat) (o : Nat) : ∀ (c p : Nat), T (fun j => g (o + j)) p c = T g (o + p) c
  | 0, _ => rfl
  | c + 1, p => by rw [T_succ, T_succ, T_shift g o c (p + 1), show o + (p + 1) = o + p + 1 by omega]
theorem layout0 {t : List Nod} {i : Nat} {x : Arr} (hb : arrB t (i : Int) x = true) (h1 : x.layout ≠ 1) (h2 : x.layout ≠ 2) : x.layout = 0 := by
  by_cases e : x.layout = 0
  · exact e
  · obtain ⟨_, hd⟩ := arrB_one hb e
    rcases hd with ⟨e, _⟩ | ⟨e, _⟩
    · exact absurd e h1
    · exact absurd e h2
theorem flatten_len {α : Type} (g : α → List UInt8) : ∀ l : List α, (l.map g).flatten.length = (l.map fun x => (g x).length).sum
  | [] => rfl
  | x :: l => by simp only [List.map_cons, List.flatten_cons, List.length_append, List.sum_cons, flatten_len g l]
theorem range_getD {h : Int → Nat} (l : List Int) : ((List.range l.length).map fun j => h (l.getD j 0)) = l.map h := by
  refine List.ext_getElem (by simp) fun i h1 h2 => ?_
  simp only [List.length_map, List.length_range] at h1
  simp [h1]
theorem valA_succ (f : Nat) (t : List Nod) (a : Int) (x : Arr) (row : Nat) : valA (f + 1) t a x row =
    if thereB x.valid row = false then [110]
    else if x.layout = 1 then valA f t a (kidA x 0) ((kidA x 0).offset + eN x.data row).toNat
    else if x.layout = 2 then valA f t a (kidA x 0) ((kidA x 0).offset.toNat + runIx x.data row)
    else if knd t a.toNat = 0 then intT (numOf ((x.data.take (8 * row + 8)).drop (8 * row)))
    else if knd t a.toNat = 1 then boolT (onB x.data row)
    else if knd t a.toNat = 2 then bytesT ((x.data.take (eN x.ends (row + 1)).toNat).drop (eN x.ends row).toNat)
    else if knd t a.toNat = 3 then listT ((List.range' (eN x.ends row).toNat ((eN x.ends (row + 1)).toNat - (eN x.ends row).toNat)).map fun j => valA f t (ksT t a 0) (kidA x 0) ((kidA x 0).offset.toNat + j))
    else structT ((List.range (kidsL t a).length).map fun j => valA f t (ksT t a j) (kidA x j) ((kidA x j).offset.toNat + row)) := rfl
/-- A row of a leaf's, laid plain. -/
theorem leaf_len {t : List Nod} {i : Nat} {x : Arr} (hb : arrB t (i : Int) x = true) (hl : x.layout = 0) (hi : inner (knd t i) = false) (f : Nat) {row : Nat} (h0 : x.offset ≤ (row : Int)) (hr : row < rowsN x) : (valA f t (i : Int) x row).length ≤ 40 := by
  have hP := arrB_plain hb hl
  cases f with
  | zero => simp [valA]
  | succ f =>
  unfold valA
  split
  · simp
  rw [if_neg (by omega), if_neg (by omega), Int.toNat_natCast]
  split
  · have := digT_len (numOf ((x.data.take (8 * row + 8)).drop (8 * row)))
    unfold intT; simp only [List.length_append, List.length_cons, List.length_nil]; omega
  rename_i h0'
  split
  · unfold boolT; split <;> (simp only [List.length_cons, List.length_nil]; omega)
  rename_i h1'
  split
  · rename_i h2'
    have hkd := hP.kind
    unfold kindM at hkd
    rw [if_neg (by omega), if_neg (by omega), if_pos h2'] at hkd
    have h16 := (endsB_at hkd hr).2.2.2.2.2 h0
    unfold bytesT
    have hd := dec_len (List.drop (eN x.ends row).toNat (List.take (eN x.ends (row + 1)).toNat x.data)).length
    have hdl : (List.drop (eN x.ends row).toNat (List.take (eN x.ends (row + 1)).toNat x.data)).length ≤ 16 := by rw [List.length_drop, List.length_take]; omega
    simp only [List.length_append, List.length_cons, List.length_nil]; omega
  rename_i h2'
  obtain ⟨hn, _⟩ := arrB_buf hb
  obtain ⟨hm, i', hi', e⟩ := nodeB_may hn
  have hii : i = i' := by omega
  subst hii
  have hk := ((mayT_iff t).1 hm).2.1 i hi'
  have hkb := hk.1
  unfold kindB at hkb
  simp only [Bool.and_eq_true, decide_eq_true_eq] at hkb
  unfold inner at hi
  simp only [Bool.or_eq_false_iff, beq_eq_false_iff_ne] at hi
  omega
theorem wt_pos (t : List Nod) (f : Nat) (a : Int) : 1 ≤ wt t f a := by
  cases f with
  | zero => exact Nat.le_refl _
  | succ f => simp only [wt]; omega
theorem valA_sum : ∀ (f : Nat) (t : List Nod) (a : Int) (x : Arr), need t a x < f → arrB t a x = true → ∀ p c : Nat, x.offset ≤ (p : Int) → p + c ≤ rowsN x → T (fun j => (valA f t a x j).length) p c ≤ 2560 * wt t f a
  | 0, _, _, _, h, _, _, _, _, _ => absurd h (Nat.not_lt_zero _)
  | f + 1, t, a, x, hf, hb, p, c, hp, hc => by
    obtain ⟨hn, hB⟩ := arrB_buf hb
    obtain ⟨hm, i, hi, rfl⟩ := nodeB_may hn
    have hrl := hB.rowsN_le
    have hw := wt_pos t (f + 1) ((i : Nat) : Int)
    -- where each row is short
    have short : (∀ row, p ≤ row → row < p + c → (valA (f + 1) t (i : Int) x row).length ≤ 40) → T (fun j => (valA (f + 1) t (i : Int) x j).length) p c ≤ 2560 * wt t (f + 1) (i : Int) := by
      intro H
      have := T_le (h := fun _ => 40) c p H
      rw [T_const] at this
      omega
    by_cases hl0 : x.layout = 0
    · by_cases hin : inner (knd t i) = false
      · exact short fun row h1 h2 => leaf_len hb hl0 hin (f + 1) (by omega) (by omega)
      · have hin' : knd t i = 3 ∨ knd t i = 4 := by
          unfold inner at hin
          simp only [Bool.not_eq_false, Bool.or_eq_true, beq_iff_eq] at hin
          exact hin
        have hP := arrB_plain hb hl0
        have hkd := hP.kind
        unfold kindM at hkd
        by_cases k3 : knd t i = 3
        · rw [if_neg (by omega), if_neg (by omega), if_neg (by omega), if_pos k3] at hkd
          simp only [Bool.and_eq_true] at hkd
          have h1 : (kidsL t (i : Int)).length = 1 := by
            have := (((mayT_iff t).1 hm).2.2 i hi).1
            unfold kidsB at this
            rw [k3] at this
            simpa using this
          have hk0 : 0 < x.kids.length := by rw [hP.kids]; omega
          have hmk := hP.may 0 hk0
          have hkl := arrB_len hmk
          have hnk := need_kid hm (x := x) (kidA x 0) (i := i) (j := 0) (by omega)
          have hwk : wt t (f + 1) (i : Int) = 1 + wt t f (ksT t (i : Int) 0) := by
            show 1 + ((kidsL t (i : Int)).map (wt t f)).sum = _
            obtain ⟨b, hb⟩ := List.length_eq_one_iff.1 h1
            unfold ksT
            rw [hb]; simp
          rcases Nat.eq_zero_or_pos c with rfl | hcp
          · rw [T_nil]; omega
          let e : Nat → Nat := fun j => (kidA x 0).offset.toNat + (eN x.ends j).toNat
          have hmono : ∀ j, p ≤ j → j < p + c → e j ≤ e (j + 1) := by
            intro j h1 h2
            have := endsB_at hkd.2 (i := j) (by omega)
            show _ + _ ≤ _ + _
            omega
          have each := T_le (g := fun j => (valA (f + 1) t (i : Int) x j).length) (h := fun j => 2 + T (fun r => (valA f t (ksT t (i : Int) 0) (kidA x 0) r).length) (e j) (e (j + 1) - e j)) c p (by
            intro row h1 h2
            have he := endsB_at hkd.2 (i := row) (by omega)
            show (valA (f + 1) t (i : Int) x row).length ≤ _
            rw [valA_succ]
            split
            · simp only [List.length_cons, List.length_nil]; omega
            rw [if_neg (by omega), if_neg (by omega), Int.toNat_natCast, if_neg (by omega), if_neg (by omega), if_neg (by omega), if_pos k3]
            unfold listT
            simp only [List.length_append, List.length_cons, List.length_nil]
            rw [flatten_len]
            have hh : ((List.range' (eN x.ends row).toNat ((eN x.ends (row + 1)).toNat - (eN x.ends row).toNat)).map fun j => (valA f t (ksT t (i : Int) 0) (kidA x 0) ((kidA x 0).offset.toNat + j)).length).sum
              = T (fun r => (valA f t (ksT t (i : Int) 0) (kidA x 0) r).length) (e row) (e (row + 1) - e row) := by
              rw [show e (row + 1) - e row = (eN x.ends (row + 1)).toNat - (eN x.ends row).toNat by show _ + _ - (_ + _) = _; omega]
              exact T_shift (fun r => (valA f t (ksT t (i : Int) 0) (kidA x 0) r).length) (kidA x 0).offset.toNat _ _
            omega)
          rw [T_add (fun _ => 2), T_const] at each
          obtain ⟨r1, r2⟩ := T_ranges (fun r => (valA f t (ksT t (i : Int) 0) (kidA x 0) r).length) e c p hmono
          rw [r1] at each
          have hlast := endsB_at hkd.2 (i := p + c - 1) (by omega)
          rw [show p + c - 1 + 1 = p + c by omega] at hlast
          have hfirst := endsB_at hkd.2 (i := p) (by omega)
          have ih := valA_sum f t (ksT t (i : Int) 0) (kidA x 0) (by omega) hmk (e p) (e (p + c) - e p) (by show (_ : Int) ≤ ((_ + _ : Nat) : Int); omega) (by
            unfold rowsN
            have : e (p + c) = (kidA x 0).offset.toNat + (eN x.ends (p + c)).toNat := rfl
            omega)
          rw [hwk]
          omega
        · rw [if_neg (by omega), if_neg (by omega), if_neg (by omega), if_neg k3] at hkd
          simp only [Bool.and_eq_true, Bool.not_eq_true', List.any_eq_false, decide_eq_true_eq] at hkd
          have hwk : wt t (f + 1) (i : Int) = 1 + ((List.range (kidsL t (i : Int)).length).map fun j => wt t f (ksT t (i : Int) j)).sum := by
            show 1 + ((kidsL t (i : Int)).map (wt t f)).sum = _
            rw [← range_getD (h := wt t f)]
            rfl
          have each := T_le (g := fun j => (valA (f + 1) t (i : Int) x j).length) (h := fun row => 2 + ((List.range (kidsL t (i : Int)).length).map fun j => (valA f t (ksT t (i : Int) j) (kidA x j) ((kidA x j).offset.toNat + row)).length).sum) c p (by
            intro row h1 h2
            show (valA (f + 1) t (i : Int) x row).length ≤ _
            rw [valA_succ]
            split
            · simp only [List.length_cons, List.length_nil]; omega
            rw [if_neg (by omega), if_neg (by omega), Int.toNat_natCast, if_neg (by omega), if_neg (by omega), if_neg (by omega), if_neg k3]
            unfold structT
            simp only [List.length_append, List.length_cons, List.length_nil]
            rw [flatten_len]
            omega)
          rw [T_add (fun _ => 2), T_const, T_sum (fun j row => (valA f t (ksT t (i : Int) j) (kidA x j) ((kidA x j).offset.toNat + row)).length)] at each
          have kids := sum_le (g := fun j => T (fun row => (valA f t (ksT t (i : Int) j) (kidA x j) ((kidA x j).offset.toNat + row)).length) p c) (h := fun j => 2560 * wt t f (ksT t (i : Int) j)) (List.range (kidsL t (i : Int)).length) (by
            intro j hj
            have hj := List.mem_range.1 hj
            have hj' : j < x.kids.length := by rw [hP.kids]; exact hj
            have hmk := hP.may j hj'
            have hkl := arrB_len hmk
            have hnk := need_kid hm (x := x) (kidA x j) hj
            have hlong := hkd.2.2 _ (kidA_mem hj')
            show T _ p c ≤ _
            rw [T_shift (fun r => (valA f t (ksT t (i : Int) j) (kidA x j) r).length)]
            exact valA_sum f t (ksT t (i : Int) j) (kidA x j) (by omega) hmk _ c (by omega) (by unfold rowsN at hc ⊢; omega))
          rw [sum_mul] at kids
          rw [hwk]
          omega
    · obtain ⟨hO, hd⟩ := arrB_one hb hl0
      have hkl := arrB_len hO.may
      refine short fun row h1 h2 => ?_
      unfold valA
      split
      · simp
      rename_i hth
      have hth' : thereB x.valid row = true := by simpa using hth
      rcases hd with ⟨e, hd⟩ | ⟨e, hd⟩
      · rw [if_pos e]
        obtain ⟨d1, d2, d3, d4⟩ := dictB_at hd (row := row) (by omega) (by omega) hth'
        exact leaf_len hO.may hO.flat hO.leaf f (by omega) (by unfold rowsN; omega)
      · rw [if_neg (by omega), if_pos e]
        have hrw := hB.rowsEq
        obtain ⟨m, m1, m2, m3, m4, m5⟩ := runB_at hd (by omega) (row := row) (by omega)
        have hx := runFrom_spec m2 65 0 (by omega) (by omega)
        have hix : runIx x.data row ≤ m := hx.1
        exact leaf_len hO.may hO.flat hO.leaf f (by omega) (by unfold rowsN; omega)
/-- A row's text, and so a range of them. -/
theorem valA_short {f : Nat} {t : List Nod} {a : Int} {x : Arr} (hf : need t a x < f) (hb : arrB t a x = true) {p c : Nat} (hp : x.offset ≤ (p : Int)) (hc : p + c ≤ rowsN x) : T (fun j => (valA f t a x j).length) p c ≤ 20480 := by
  have h := valA_sum f t a x hf hb p c hp hc
  obtain ⟨hn, _⟩ := arrB_buf hb
  obtain ⟨hm, i, hi, rfl⟩ := nodeB_may hn
  have := wt_le hm f hi
  omega
theorem valA_row {f : Nat} {t : List Nod} {a : Int} {x : Arr} (hf : need t a x < f) (hb : arrB t a x = true) {row : Nat} (hp : x.offset ≤ (row : Int)) (hc : row < rowsN x) : (valA f t a x row).length ≤ 20480 := by
  have h := valA_short hf hb (p := row) (c := 1) hp hc
  rw [T_succ, T_nil] at h
  exact h
theorem dec_eq : ∀ (f n : Nat), n < 10 ^ f → 0 < f → strOfBytes (decI f n) = Lib.decDigits n
  | 0, _, _, h => by omega
  | f + 1, n, hf, _ => by
    rw [Lib.decDigits]
    unfold decI
    by_cases h : n < 10
    · rw [if_pos h, dif_pos h]
      unfold strOfBytes
      simp only [List.map_cons, List.map_nil, List.cons.injEq, and_true]
      congr 1
    · rw [if_neg h, dif_neg h]
      have f0 : 0 < f := by
        rcases Nat.eq_zero_or_pos f with e | e
        · subst e; omega
        · exact e
      rw [strOfBytes_append, dec_eq f (n / 10) (by rw [Nat.pow_succ] at hf; omega) f0]
      congr 1
theorem itoa_eq {x : Int} (h0 : -9223372036854775808 ≤ x) (h1 : x ≤ 9223372036854775807) : Lib.itoa x = digT x := by
  unfold Lib.itoa digT dec
  have e : (10 : Nat) ^ 20 = 100000000000000000000 := by decide
  split
  · rw [dec_eq 20 _ (by omega) (by omega)]
  · rw [dec_eq 20 _ (by omega) (by omega)]
theorem Itoa_ok {k : Nat} (hk : 1 ≤ k) {x : Int} (h0 : -9223372036854775808 ≤ x) (h1 : x ≤ 9223372036854775807) : strconv_Itoa.f idb k x = some (digT x) := by
  obtain ⟨k, rfl⟩ : ∃ m, k = m + 1 := ⟨k - 1, by omega⟩
  rw [strconv_Itoa.f_eq]
  unfold extItoa
  rw [dT h0, dT h1, itoa_eq h0 h1]
  rfl
theorem join_nil' (xs : List (List UInt8)) : Lib.join xs [] = xs.flatten := by
  cases xs with
  | nil => rfl
  | cons x r =>
    rw [Lib.join_cons]
    unfold Lib.joinTail
    simp
theorem Join_ok {k : Nat} (hk : 1 ≤ k) {vs : List (List UInt8)} (h1 : vs.length ≤ 140737488355328) (h2 : vs.flatten.length ≤ 140737488355328) : strings_Join.f idb k vs [] = some vs.flatten := by
  obtain ⟨k, rfl⟩ : ∃ m, k = m + 1 := ⟨k - 1, by omega⟩
  rw [strings_Join.f_eq]
  unfold extJoin
  rw [join_nil', dT h1, dT h2]
  rfl
theorem v_Int_ok {k : Nat} (hk : 2 ≤ k) {x : Int} (h0 : -9223372036854775808 ≤ x) (h1 : x ≤ 9223372036854775807) : value_Int.f idb k x = some (intT x) := by
  obtain ⟨k, rfl⟩ : ∃ m, k = m + 1 := ⟨k - 1, by omega⟩
  have := digT_len x
  rw [value_Int.f_eq, Itoa_ok (by omega) h0 h1, bS, dT (by simp only [List.length_cons, List.length_nil]; omega), cT, dT (by simp only [List.length_append, List.length_cons, List.length_nil]; omega), cT]
  rfl
theorem v_Bool_ok {k : Nat} (hk : 1 ≤ k) (b : Bool) : value_Bool.f idb k b = some (boolT b) := by
  obtain ⟨k, rfl⟩ : ∃ m, k = m + 1 := ⟨k - 1, by omega⟩
  rw [value_Bool.f_eq]; cases b <;> rfl
theorem v_Null_ok {k : Nat} (hk : 1 ≤ k) : value_Null.f idb k = some [110] := by
  obtain ⟨k, rfl⟩ : ∃ m, k = m + 1 := ⟨k - 1, by omega⟩
  rw [value_Null.f_eq]
theorem digT_nat (n : Nat) : digT (n : Int) = dec n := by
  unfold digT
  rw [if_neg (by omega), Int.toNat_natCast]
theorem v_Bytes_ok {k : Nat} (hk : 2 ≤ k) {s : List UInt8} (hs : s.length ≤ 1000000000000) : value_Bytes.f idb k s = some (bytesT s) := by
  obtain ⟨k, rfl⟩ : ∃ m, k = m + 1 := ⟨k - 1, by omega⟩
  have := dec_len s.length
  rw [value_Bytes.f_eq, Itoa_ok (by omega) (by omega) (by omega), bS, digT_nat, dT (by simp only [List.length_cons, List.length_nil]; omega), cT, dT (by simp only [List.length_append, List.length_cons, List.length_nil]; omega), cT,
    dT (by simp only [List.length_append, List.length_cons, List.length_nil]; omega), cT]
  rfl
theorem v_List_ok {k : Nat} (hk : 2 ≤ k) {vs : List (List UInt8)} (h1 : vs.length ≤ 140737488355328) (h2 : vs.flatten.length ≤ 140737488355328) : value_List.f idb k vs = some (listT vs) := by
  obtain ⟨k, rfl⟩ : ∃ m, k = m + 1 := ⟨k - 1, by omega⟩
  rw [value_List.f_eq, Join_ok (by omega) h1 h2, bS, dT (by simp only [List.length_cons, List.length_nil]; omega), cT, dT (by simp only [List.length_append, List.length_cons, List.length_nil]; omega), cT]
  rfl
theorem v_Struct_ok {k : Nat} (hk : 2 ≤ k) {vs : List (List UInt8)} (h1 : vs.length ≤ 140737488355328) (h2 : vs.flatten.length ≤ 140737488355328) : value_Struct.f idb k vs = some (structT vs) := by
  obtain ⟨k, rfl⟩ : ∃ m, k = m + 1 := ⟨k - 1, by omega⟩
  rw [value_Struct.f_eq, Join_ok (by omega) h1 h2, bS, dT (by simp only [List.length_cons, List.length_nil]; omega), cT, dT (by simp only [List.length_append, List.length_cons, List.length_nil]; omega), cT]
  rfl
/-- The number of the first run that ends above a row. -/
theorem run_ok {k : Nat} (hk : 90 ≤ k) {x : Arr} (hd : x.data.length ≤ 4096) {row m : Nat} (hm : (row : Int) < eN x.data m) (hm64 : m ≤ 64) : read_run.f idb k x (row : Int) = some ((runIx x.data row : Nat) : Int) := by
  obtain ⟨k, rfl⟩ : ∃ q, k = q + 1 := ⟨k - 1, by omega⟩
  rw [read_run.f_eq]
  have key : ∀ (g j n : Nat), j ≤ m → m < j + g → g < n → read_run.l0 idb k n x.layout x.offset x.length x.valid x.ends x.data x.kids (row : Int) (j : Int) = some ((runFrom x.data row g j : Nat) : Int) := by
    intro g
    induction g with
    | zero => intro j n h1 h2; omega
    | succ g ih =>
      intro j n h1 h2 h3
      obtain ⟨n, rfl⟩ : ∃ q, n = q + 1 := ⟨n - 1, by omega⟩
      rw [read_run.l0_eq, array_Number_ok' (by omega) hd (by omega), bS]
      simp only
      unfold runFrom
      by_cases hle : eN x.data j ≤ (row : Int)
      · rw [dF (by omega), cF, if_pos hle, wsucc (by omega)]
        have hne : j ≠ m := fun e => by subst e; omega
        exact ih (j + 1) n (by omega) (by omega) (by omega)
      · rw [dT (by omega), cT, if_neg hle]
  exact key 65 0 k (by omega) (by omega) (by omega)
theorem row_text {k : Nat} (hk : 1 ≤ k) (t : List Nod) (a : Int) (x : Arr) {r : Int} (hr : -1000000 ≤ x.offset + r ∧ x.offset + r ≤ 1000000) : read_reader_row.f idb k t a x r = read_reader_text.f idb (k - 1) t a x (x.offset + r) := by
  obtain ⟨k, rfl⟩ : ∃ q, k = q + 1 := ⟨k - 1, by omega⟩
  rw [read_reader_row.f_eq, wi64 _ (by omega), Nat.add_sub_cancel]
  cases read_reader_text.f idb k t a x (x.offset + r) <;> rfl
theorem read_text_ok : ∀ (f : Nat) (t : List Nod) (a : Int) (x : Arr) (row : Nat), need t a x < f → arrB t a x = true → x.offset ≤ (row : Int) → row < rowsN x → ∀ k, 700 + 5 * f ≤ k →
    read_reader_text.f idb k t a x (row : Int) = some (valA f t a x row)
  | 0, _, _, _, _, h, _, _, _, _, _ => absurd h (Nat.not_lt_zero _)
  | f + 1, t, a, x, row, hf, hb, h0, hr, k, hk => by
    obtain ⟨k, rfl⟩ : ∃ m, k = m + 1 := ⟨k - 1, by omega⟩
    obtain ⟨hn, hB⟩ := arrB_buf hb
    obtain ⟨hm, i, hi, rfl⟩ := nodeB_may hn
    have hrw := hB.rowsEq
    have hrl := hB.rowsN_le
    have htl := mayT_length hm
    have ho := hB.off
    have hd := hB.data
    have hends := hB.ends
    rw [read_reader_text.f_eq, array_There_ok (by omega) (hB.inV (by omega)) (by omega), bS, valA_succ]
    cases hth : thereB x.valid row with
    | false => rw [Bool.not_false, cT, if_pos rfl, v_Null_ok (by omega), bS]
    | true =>
      rw [Bool.not_true, cF, if_neg (by simp)]
      by_cases hl1 : x.layout = 1
      · obtain ⟨hO, hd'⟩ := arrB_one hb (by omega)
        rcases hd' with ⟨_, hd'⟩ | ⟨e, _⟩
        · obtain ⟨d1, d2, d3, d4⟩ := dictB_at hd' h0 hr hth
          have hkl := arrB_len hO.may
          have hr0 := rd_get (show 0 < x.kids.length by rw [hO.kids]; omega)
          rw [kidA_get (by rw [hO.kids]; omega), show ((0 : Nat) : Int) = 0 from rfl] at hr0
          rw [if_pos hl1, show (x.layout == 1) = true by simpa using hl1, cT, array_Number_ok' (by omega) hd (by omega), bS, hr0, bS]
          simp only
          have ih := read_text_ok f t (i : Int) (kidA x 0) ((kidA x 0).offset + eN x.data row).toNat (by unfold need at hf ⊢; rw [if_neg (by omega)] at hf; rw [if_pos hO.flat]; omega) hO.may (by omega) (by unfold rowsN; omega) (k - 1) (by omega)
          rw [show ((((kidA x 0).offset + eN x.data row).toNat : Nat) : Int) = (kidA x 0).offset + eN x.data row by omega] at ih
          rw [row_text (by omega) t _ _ (by omega), ih, bS]
        · omega
      · rw [if_neg hl1, show (x.layout == 1) = false by simpa using hl1, cF]
        by_cases hl2 : x.layout = 2
        · obtain ⟨hO, hd'⟩ := arrB_one hb (by omega)
          rcases hd' with ⟨e, _⟩ | ⟨_, hd'⟩
          · omega
          · have hkl := arrB_len hO.may
            obtain ⟨m, m1, m2, m3, m4, m5⟩ := runB_at hd' (by omega) (row := row) (by omega)
            have hr0 := rd_get (show 0 < x.kids.length by rw [hO.kids]; omega)
            rw [kidA_get (by rw [hO.kids]; omega), show ((0 : Nat) : Int) = 0 from rfl] at hr0
            have hx := runFrom_spec m2 65 0 (by omega) (by omega)
            have hix : runIx x.data row ≤ m := hx.1
            rw [if_pos hl2, show (x.layout == 2) = true by simpa using hl2, cT, hr0, bS, run_ok (by omega) hd m2 (by omega), bS]
            have ih := read_text_ok f t (i : Int) (kidA x 0) ((kidA x 0).offset.toNat + runIx x.data row) (by unfold need at hf ⊢; rw [if_neg (by omega)] at hf; rw [if_pos hO.flat]; omega) hO.may (by omega) (by unfold rowsN; omega) (k - 1) (by omega)
            rw [show ((((kidA x 0).offset.toNat + runIx x.data row : Nat)) : Int) = (kidA x 0).offset + ((runIx x.data row : Nat) : Int) by omega] at ih
            rw [row_text (by omega) t _ _ (by omega), ih, bS]
        · have hl0 := layout0 hb hl1 hl2
          have hP := arrB_plain hb hl0
          have hkd := hP.kind
          unfold kindM at hkd
          have hkl8 := kidsU_length t (i : Int) t.length
          obtain ⟨k, rfl⟩ : ∃ m, k = m + 1 := ⟨k - 1, by omega⟩
          rw [if_neg hl2, show (x.layout == 2) = false by simpa using hl2, cF, read_reader_plain.f_eq, rd_get hi, bS, knd_get hi, Int.toNat_natCast]
          by_cases k0 : knd t i = 0
          · rw [if_pos k0] at hkd ⊢
            simp only [Bool.and_eq_true, decide_eq_true_eq] at hkd
            have t1 : (8 * (row : Int)).toNat = 8 * row := by omega
            have t2 : (8 * ((row : Int) + 1)).toNat = 8 * row + 8 := by omega
            rw [show (knd t i == 0) = true by simpa using k0, cT, wi64 ((row : Int) + 1) (by omega), wi64 (8 * (row : Int)) (by omega), wi64 (8 * ((row : Int) + 1)) (by omega), dT (show (0 : Int) ≤ 8 * ((row : Int) + 1) by omega), dT (show (0 : Int) ≤ 8 * (row : Int) by omega),
              dT (show 8 * ((row : Int) + 1) ≤ ((x.data.length : Nat) : Int) by omega), t1, t2, dT (show 8 * (row : Int) ≤ ((8 * row + 8 : Nat) : Int) by omega)]
            simp only [Bool.and_self, cT]
            have hw : -9223372036854775808 ≤ numOf ((x.data.take (8 * row + 8)).drop (8 * row)) ∧ numOf ((x.data.take (8 * row + 8)).drop (8 * row)) ≤ 9223372036854775807 := by
              unfold numOf; rw [IntKind.wrap_i64]; omega
            rw [num_Of_ok (by omega) _ (by rw [List.length_drop, List.length_take]; omega), bS, v_Int_ok (by omega) hw.1 hw.2, bS, bS]
          · rw [if_neg k0] at hkd ⊢
            rw [show (knd t i == 0) = false by simpa using k0, cF]
            by_cases k1 : knd t i = 1
            · rw [if_pos k1] at hkd ⊢
              simp only [Bool.and_eq_true, decide_eq_true_eq] at hkd
              have hbb : row / 8 < x.data.length := by
                have := hkd.2
                rw [← hrw] at this
                unfold bitB at this
                omega
              rw [show (knd t i == 1) = true by simpa using k1, cT, bits_On_ok (by omega) hbb (by omega), bS, v_Bool_ok (by omega), bS, bS]
            · rw [if_neg k1] at hkd ⊢
              rw [show (knd t i == 1) = false by simpa using k1, cF, types_Kids_ok (by omega), bS]
              have en := array_Number_ok' (k := k) (by omega) hends (i := row) (by omega)
              have en1 := array_Number_ok' (k := k) (by omega) hends (i := row + 1) (by omega)
              rw [show ((row + 1 : Nat) : Int) = (row : Int) + 1 by omega] at en1
              rw [en, bS, wi64 ((row : Int) + 1) (by omega), en1, bS, bS, knd_get hi]
              unfold kidsT
              rw [if_pos hn]
              simp only
              by_cases k2 : knd t i = 2
              · rw [if_pos k2] at hkd ⊢
                have he := endsB_at hkd hr
                rw [show (knd t i == 2) = true by simpa using k2, cT]
                rw [dT (show 0 ≤ eN x.ends (row + 1) by omega), dT (show eN x.ends (row + 1) ≤ ((x.data.length : Nat) : Int) by omega), dT (show 0 ≤ eN x.ends row by omega), dT (show eN x.ends row ≤ (((eN x.ends (row + 1)).toNat : Nat) : Int) by omega)]
                simp only [Bool.and_self, cT]
                rw [v_Bytes_ok (by omega) (by rw [List.length_drop, List.length_take]; omega), bS, bS]
              · rw [if_neg k2] at hkd ⊢
                rw [show (knd t i == 2) = false by simpa using k2, cF]
                by_cases k3 : knd t i = 3
                · rw [if_pos k3] at hkd ⊢
                  simp only [Bool.and_eq_true] at hkd
                  have he := endsB_at hkd.2 hr
                  have h1 : (kidsL t (i : Int)).length = 1 := by
                    have := (((mayT_iff t).1 hm).2.2 i hi).1
                    unfold kidsB at this
                    rw [k3] at this
                    simpa using this
                  have hk0 : 0 < x.kids.length := by rw [hP.kids]; omega
                  have hmk := hP.may 0 hk0
                  have hkl := arrB_len hmk
                  obtain ⟨q, q1, q2, q3⟩ := ksT_gt hm (i := i) (j := 0) (by omega)
                  have hnk := need_kid hm (x := x) (kidA x 0) (i := i) (j := 0) (by omega)
                  rw [show (knd t i == 3) = true by simpa using k3, cT]
                  have hr0 := rd_get hk0
                  rw [kidA_get hk0, show ((0 : Nat) : Int) = 0 from rfl] at hr0
                  have hks0 := ksT_get (t := t) (a := (i : Int)) (j := 0) (by omega)
                  generalize hfr : (eN x.ends row).toNat = fr
                  have efr : eN x.ends row = (fr : Int) := by omega
                  generalize hcn : (eN x.ends (row + 1)).toNat - fr = cn
                  have ecn : eN x.ends (row + 1) = ((fr + cn : Nat) : Int) := by omega
                  rw [efr, ecn]
                  -- each of the list's values
                  have each : ∀ j, fr ≤ j → j < fr + cn → read_reader_row.f idb k t (ksT t (i : Int) 0) (kidA x 0) (j : Int) = some (valA f t (ksT t (i : Int) 0) (kidA x 0) ((kidA x 0).offset.toNat + j)) := by
                    intro j hj1 hj2
                    have ih := read_text_ok f t (ksT t (i : Int) 0) (kidA x 0) ((kidA x 0).offset.toNat + j) (by omega) hmk (by omega) (by unfold rowsN; omega) (k - 1) (by omega)
                    rw [show ((((kidA x 0).offset.toNat + j : Nat)) : Int) = (kidA x 0).offset + (j : Int) by omega] at ih
                    rw [row_text (by omega) t _ _ (by omega)]
                    exact ih
                  have hlen : ((List.range' fr cn).map fun j => valA f t (ksT t (i : Int) 0) (kidA x 0) ((kidA x 0).offset.toNat + j)).flatten.length ≤ 20480 := by
                    have := valA_short (f := f) (t := t) (a := ksT t (i : Int) 0) (x := kidA x 0) (by omega) hmk (p := (kidA x 0).offset.toNat + fr) (c := cn) (by omega) (by unfold rowsN; omega)
                    rw [flatten_len]
                    rw [← T_shift (fun j => (valA f t (ksT t (i : Int) 0) (kidA x 0) j).length)] at this
                    exact this
                  have key := loop_up (F := fun n j => read_reader_plain.l2 idb k n x.layout x.offset x.length x.valid x.ends x.data x.kids ((fr + cn : Nat) : Int) ((fr + j : Nat) : Int) t (kidsL t (i : Int)) ((List.range' fr j).map fun j => valA f t (ksT t (i : Int) 0) (kidA x 0) ((kidA x 0).offset.toNat + j)))
                    (N := cn) (r := some (listT ((List.range' fr cn).map fun j => valA f t (ksT t (i : Int) 0) (kidA x 0) ((kidA x 0).offset.toNat + j)))) ?_ ?_ k 0 (by omega) (by omega)
                  · rw [show ((fr : Nat) : Int) = ((fr + 0 : Nat) : Int) from rfl]
                    have key' := key
                    simp only [List.range'_zero, List.map_nil] at key'
                    rw [key', bS]
                  · intro n j hj
                    rw [read_reader_plain.l2_eq, dT (by omega), cT]
                    have e1 : (decide ((0 : Nat) ≤ 0) && decide ((0 : Int) < ((kidsL t (i : Int)).length : Int))) = true := by rw [h1]; decide
                    rw [e1, cT, hks0, bS, hr0, bS, each (fr + j) (by omega) (by omega), bS, append_room (by simp; omega), cT, wsucc (by omega), List.range'_concat, List.map_append, Nat.one_mul]
                    rfl
                  · intro n
                    rw [read_reader_plain.l2_eq, dF (by omega), cF, v_List_ok (by omega) (by simp; omega) (by omega), bS]
                · rw [if_neg k3] at hkd ⊢
                  rw [show (knd t i == 3) = false by simpa using k3, cF]
                  simp only [Bool.and_eq_true, Bool.not_eq_true', List.any_eq_false, decide_eq_true_eq] at hkd
                  have each : ∀ j, j < (kidsL t (i : Int)).length → read_reader_row.f idb k t (ksT t (i : Int) j) (kidA x j) (row : Int) = some (valA f t (ksT t (i : Int) j) (kidA x j) ((kidA x j).offset.toNat + row)) ∧
                      (valA f t (ksT t (i : Int) j) (kidA x j) ((kidA x j).offset.toNat + row)).length ≤ 20480 := by
                    intro j hj
                    have hj' : j < x.kids.length := by rw [hP.kids]; exact hj
                    have hmk := hP.may j hj'
                    have hkl := arrB_len hmk
                    have hnk := need_kid hm (x := x) (kidA x j) hj
                    have hlong := hkd.2.2 _ (kidA_mem hj')
                    have ih := read_text_ok f t (ksT t (i : Int) j) (kidA x j) ((kidA x j).offset.toNat + row) (by omega) hmk (by omega) (by unfold rowsN at hr ⊢; omega) (k - 1) (by omega)
                    rw [show ((((kidA x j).offset.toNat + row : Nat)) : Int) = (kidA x j).offset + (row : Int) by omega] at ih
                    rw [row_text (by omega) t _ _ (by omega)]
                    exact ⟨ih, valA_row (by omega) hmk (by omega) (by unfold rowsN at hr ⊢; omega)⟩
                  have hlen : ((List.range (kidsL t (i : Int)).length).map fun j => valA f t (ksT t (i : Int) j) (kidA x j) ((kidA x j).offset.toNat + row)).flatten.length ≤ (kidsL t (i : Int)).length * 20480 := by
                    have := flat_len (B := 20480) (List.range (kidsL t (i : Int)).length) (fun j => valA f t (ksT t (i : Int) j) (kidA x j) ((kidA x j).offset.toNat + row)) (fun j hj => (each j (List.mem_range.1 hj)).2)
                    rw [List.length_range] at this
                    exact this
                  have hkk : (kidsL t (i : Int)).length ≤ 8 := by unfold kidsL; omega
                  have key := loop_up (F := fun n j => read_reader_plain.l4 idb k n x.layout x.offset x.length x.valid x.ends x.data x.kids (row : Int) ((kidsL t (i : Int)).length : Int) (j : Int) t ((List.range j).map fun j => valA f t (ksT t (i : Int) j) (kidA x j) ((kidA x j).offset.toNat + row)) (kidsL t (i : Int)))
                    (N := (kidsL t (i : Int)).length) (r := some (structT ((List.range (kidsL t (i : Int)).length).map fun j => valA f t (ksT t (i : Int) j) (kidA x j) ((kidA x j).offset.toNat + row)))) ?_ ?_ k 0 (by omega) (by omega)
                  · have key' := key
                    simp only [List.range_zero, List.map_nil] at key'
                    rw [show (0 : Int) = ((0 : Nat) : Int) from rfl, key', bS]
                  · intro n j hj
                    have hj' : j < x.kids.length := by rw [hP.kids]; exact hj
                    rw [read_reader_plain.l4_eq, dT (by omega), cT]
                    rw [show (decide ((0 : Int) ≤ (j : Int))) = true from dT (by omega)]
                    simp only [Bool.and_self, cT, Int.toNat_natCast]
                    rw [ksT_get hj, bS, rd_get hj', bS, kidA_get hj', (each j hj).1, bS, append_room (by simp; omega), cT, wsucc (by omega), List.range_succ, List.map_append]
                    rfl
                  · intro n
                    rw [read_reader_plain.l4_eq, dF (by omega), cF, v_Struct_ok (by omega) (by simp; omega) (by omega), bS]
theorem read_Values_ok {t : List Nod} {a : Int} {x : Arr} (hx : RoomyA x) {k : Nat} (hk : 1001 ≤ k) : read_Values.f idb k t a x = some (valsT t a x) := by
  obtain ⟨k, rfl⟩ : ∃ m, k = m + 1 := ⟨k - 1, by omega⟩
  rw [read_Values.f_eq, May_ok hx (by omega), bS]
  unfold valsT
  cases hb : arrB t a x with
  | false => rfl
  | true =>
    rw [Bool.not_true, cF, if_pos rfl]
    have hl := arrB_len hb
    obtain ⟨hn, _⟩ := arrB_buf hb
    have hnd := need_lt (x := x) hn
    have key := loop_up (F := fun n i => read_Values.l0 idb k n a x.length (i : Int) t x.layout x.offset x.valid x.ends x.data x.kids ((List.range i).map fun i => valA 20 t a x (x.offset.toNat + i))) (N := x.length.toNat) (r := some (valsA t a x, 0)) ?_ ?_ k 0 (by omega) (by omega)
    · exact key
    · intro n i hi
      have hv := read_text_ok 20 t a x (x.offset.toNat + i) (by omega) hb (by omega) (by unfold rowsN; omega) (k - 1) (by omega)
      rw [show (((x.offset.toNat + i : Nat)) : Int) = x.offset + (i : Int) by omega] at hv
      rw [read_Values.l0_eq, dT (by omega), cT, Arr.eta, row_text (by omega) t a x (by omega), hv, bS, append_room (by simp; omega), cT, wsucc (by omega), List.range_succ, List.map_append]
      rfl
    · intro n
      rw [read_Values.l0_eq, dF (by omega), cF]
      rfl
end Go.Proofs.YtppmpfddcohkjaaGreatDoorP
