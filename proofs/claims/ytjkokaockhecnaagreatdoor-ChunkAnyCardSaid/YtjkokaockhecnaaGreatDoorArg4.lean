/- What a row's reading of an array says, in the machine's words; no condition. -/
import Derived.Test.YtjkokaockhecnaaGreatDoorArg3
import Derived.Test.YtjkokaockhecnaaGreatDoorRoom
import Derived.ChangeArms
namespace Go.Proofs.YtjkokaockhecnaaGreatDoorA
open Go Go.Proofs.YtjkokaockhecnaaGreatDoor

section
variable {H : Type} {enc : TypeId × Value → H} {P : Program} {W : World}

/-- A reading whose weights a machine can bear. -/
def wOK (P : Program) (t : TypeId) (d : DataW H) : Prop := ∀ w ∈ d.weights P t, w ≤ 140737488351232
/-- With so much fuel a kind of elements is read so. -/
def RdF (enc : TypeId × Value → H) (P : Program) (W : World) (fuel : Nat) (e : TypeId) (t : El) (ok : t.den → Prop) : Prop :=
  ∀ cs x, DataW.trod enc P W 0 (fun _ => true) true fuel e cs = some x → wOK P e x.1 → ∃ y : t.den, ok y ∧ RepL W gAll (t.cells y) cs

theorem rdF_int {e : TypeId} {k : IntKind} (hu : P.underlying e = some (.int k)) (fuel : Nat) : RdF enc P W fuel e (.int k) (fun n => (Lit.int k n).wf = true) := by
  intro cs x h _
  obtain ⟨y, h1, h2, _⟩ := reads_int (enc := enc) (P := P) (W := W) (H := H) counts hu fuel _ _ h
  exact ⟨y, h1, h2⟩
theorem rdF_str {e : TypeId} (hu : P.underlying e = some .string) (fuel : Nat) : RdF enc P W fuel e .str (fun s => s.length ≤ 140737488351232) := by
  intro cs x h hw
  cases fuel with
  | zero => cases h
  | succ fuel =>
    rw [DataW.trod_step] at h
    unfold DataW.trodStep at h
    rw [hu] at h
    simp only at h
    split at h <;> try (simp_all; done)
    rename_i s heq
    split at h
    · rename_i hl
      cases h
      refine ⟨s.data.toList, ?_, .cons (str_rep s) .nil⟩
      exact hw _ (by simp [DataW.weights])
    · cases h
theorem weightsAll_mem {e : TypeId} {d : DataW H} : ∀ {l : List (DataW H)}, d ∈ l → ∀ w ∈ d.weights P e, w ∈ DataW.weightsAll P e l
  | [], h, _, _ => by simp at h
  | d' :: l, h, w, hw => by
    simp only [DataW.weightsAll, List.mem_append]
    rcases List.mem_cons.mp h with rfl | h
    · exact .inl hw
    · exact .inr (weightsAll_mem h w hw)
theorem rdF_list {T e : TypeId} {t : El} {ok : t.den → Prop} (hu : P.underlying T = some (.slice e)) (hc : P.cellsOf e = t.size) {B : Nat} (hB : P.bytesOf e = B) {fuel : Nat} (hr : RdF enc P W fuel e t ok) :
    RdF enc P W (fuel + 1) T (.list t) (fun xs => xs.length * B ≤ 140737488351232 ∧ ∀ x ∈ xs, ok x) := by
  intro cs x h hw
  rcases DataW.trod_slice hu h with ⟨rfl, rfl⟩ | ⟨a, len, cap, elems, rest, n, hn, rfl, rfl, _, hl, hm, hlen, hel, _, _⟩
  · exact ⟨[], ⟨by simp, fun x hx => by simp at hx⟩, .cons (.lnil t none 0) .nil⟩
  · obtain rfl : fuel = n := by omega
    have hy : ∀ i, ∃ y : t.den, i < len → ok y ∧ (∀ q, q < t.size → ∃ v, W.cell? (a.add (i * t.size + q)) = some v ∧ ∃ (h : q < (t.cells y).length), RepA W gAll ((t.cells y)[q]) v) := by
      intro i
      by_cases hi : i < len
      · have h0 := hel i hi
        have hie : i < elems.length := by omega
        rw [List.getElem?_eq_getElem hie, Option.bind_eq_some_iff] at h0
        obtain ⟨cs', h1, h2⟩ := h0
        obtain ⟨y, q1, q2⟩ := hr _ _ h2 (fun w hw' => hw w (by
          simp only [DataW.weights, hu, List.mem_cons, List.mem_append]
          exact .inr (.inl (weightsAll_mem (List.mem_map.2 ⟨_, List.getElem_mem hie, rfl⟩) w hw'))))
        refine ⟨y, fun _ => ⟨q1, fun q hq => ?_⟩⟩
        have hql : q < (t.cells y).length := by rw [cells_length]; exact hq
        have hqc : q < cs'.length := by rw [q2.1]; exact hql
        obtain ⟨c1, _⟩ := cell_of_cells h1 (List.getElem?_eq_getElem hqc)
        refine ⟨cs'[q], ?_, hql, q2.2 q hql hqc⟩
        rw [hc] at c1
        rw [← c1]
        congr 1
        unfold Addr.add
        by_cases z1 : i * t.size = 0
        · simp [z1]
        · by_cases z2 : q = 0
          · simp [z2, z1]
          · have : ¬ (i * t.size + q = 0) := by omega
            simp only [z1, z2, this, if_false]
            congr 1
            omega
      · have hz : Nonempty t.den := by
          cases t <;> first | exact ⟨0⟩ | exact ⟨false⟩ | exact ⟨[]⟩ | exact ⟨⟨0, 0, false⟩⟩ | exact ⟨.mk 0 0 0 [] [] [] []⟩ | exact ⟨⟨[], [], []⟩⟩ | exact ⟨⟨0, 0, 0, 0⟩⟩
        exact hz.elim fun z => ⟨z, fun h => absurd h hi⟩
    let ys : Nat → t.den := fun i => (hy i).choose
    have hys : ∀ i, i < len → ok (ys i) ∧ (∀ q, q < t.size → ∃ v, W.cell? (a.add (i * t.size + q)) = some v ∧ ∃ (h : q < (t.cells (ys i)).length), RepA W gAll ((t.cells (ys i))[q]) v) := fun i hi => (hy i).choose_spec hi
    have hlen' : ((List.range len).map ys).length = len := by simp
    refine ⟨(List.range len).map ys, ⟨?_, fun x hx => ?_⟩, .cons ?_ .nil⟩
    · have h1 := hw ((elems.length + rest.length) * P.bytesOf e) (by simp [DataW.weights, hu])
      rw [hB] at h1
      rw [hlen']
      exact Nat.le_trans (Nat.mul_le_mul_right _ (by omega)) h1
    · obtain ⟨i, hi, rfl⟩ := List.mem_map.1 hx
      exact (hys i (List.mem_range.1 hi)).1
    · by_cases h0 : len = 0
      · subst h0
        exact .lnil t (some a) cap
      · have hspot : a = ⟨a.block, a.off, none⟩ := by
          obtain ⟨v, hv, _⟩ := (hys 0 (by omega)).2 0 (size_pos t)
          rw [Nat.zero_mul] at hv
          have : a.add (0 + 0) = a := rfl
          rw [this] at hv
          unfold World.cell? at hv
          obtain ⟨b, o, sp⟩ := a
          cases sp with
          | none => rfl
          | some k =>
            simp only at hv
            split at hv
            · simp at hv
            · cases hv
        have hadd : ∀ j, a.add j = ⟨a.block, a.off + j, none⟩ := by
          intro j
          rw [hspot]
          exact Addr.add_lit _ _ _
        have hfl : ∀ j (hj : j < (flat t ((List.range len).map ys)).length), ∃ v, W.cell? ⟨a.block, a.off + j, none⟩ = some v ∧ RepA W gAll ((flat t ((List.range len).map ys))[j]) v := by
          intro j hj
          rw [flat_length, hlen'] at hj
          have hs := size_pos t
          have hq : j % t.size < t.size := Nat.mod_lt _ hs
          have hi : j / t.size < len := (Nat.div_lt_iff_lt_mul hs).2 hj
          have hjd : j / t.size * t.size + j % t.size = j := by rw [Nat.mul_comm]; exact Nat.div_add_mod j t.size
          obtain ⟨v, hv, hql, hrep⟩ := (hys _ hi).2 _ hq
          rw [hadd, hjd] at hv
          refine ⟨v, hv, ?_⟩
          have hg := flat_get t ((List.range len).map ys) (j / t.size) (ys (j / t.size)) (j % t.size) (by simp [hi]) hq
          rw [hjd] at hg
          have hj' : j < (flat t ((List.range len).map ys)).length := by rw [flat_length, hlen']; exact hj
          rw [List.getElem?_eq_getElem hj', List.getElem?_eq_getElem hql] at hg
          simp only [Option.some.injEq] at hg
          rw [hg]; exact hrep
        have hrep := RepA.list (w := W) (g := gAll) t ((List.range len).map ys) a.block a.off cap (fun j => (W.cell? ⟨a.block, a.off + j, none⟩).getD undef) (by rw [hlen']; exact hl) (fun j hj => ?_) (fun j hj => ?_)
        · rw [hlen', ← hspot] at hrep
          exact hrep
        · obtain ⟨v, hv, _⟩ := hfl j hj
          exact ⟨rfl, by rw [hv]; rfl⟩
        · obtain ⟨v, hv, hr⟩ := hfl j hj
          rw [hv]; exact hr

theorem mapM_cons_some {α β : Type} {f : α → Option β} {a : α} {l : List α} {ys : List β} (h : (a :: l).mapM f = some ys) : ∃ y zs, f a = some y ∧ l.mapM f = some zs ∧ ys = y :: zs := by
  rw [List.mapM_cons] at h
  cases ha : f a with
  | none => rw [ha] at h; simp at h
  | some y =>
    rw [ha] at h
    cases hl : l.mapM f with
    | none => rw [hl] at h; simp at h
    | some zs =>
      rw [hl] at h
      simp at h
      exact ⟨y, zs, rfl, rfl, h.symm⟩
theorem rep_one {w : World} {g : Gh} {a : AV} {v : Value} (h : RepL w g [a] [v]) : RepA w g a v := h.2 0 (by simp) (by simp)

/-- The types of an array's parts. -/
structure ArrTys (P : Program) (TA ti ts tk : TypeId) : Prop where
  fs : ∃ fs, P.underlying TA = some (.struct fs) ∧ fs.toList.map (fun f => (f.offset, f.type)) = [(0, ti), (1, ti), (2, ti), (3, ts), (4, ts), (5, ts), (6, tk)]
  ca : P.cellsOf TA = 7
  ci : P.cellsOf ti = 1
  cs : P.cellsOf ts = 1
  ck : P.cellsOf tk = 1
  ui : P.underlying ti = some (.int .i64)
  us : P.underlying ts = some .string
  uk : P.underlying tk = some (.slice TA)
  ba : P.bytesOf TA = 96

theorem rdF_arr {TA ti ts tk : TypeId} (hT : ArrTys P TA ti ts tk) : ∀ fuel, RdF enc P W fuel TA .arr RoomyA ∧ RdF enc P W fuel tk (.list .arr) (fun xs => xs.length * 96 ≤ 140737488351232 ∧ ∀ x ∈ xs, RoomyA x)
  | 0 => ⟨fun cs x h => by simp [DataW.trod] at h, fun cs x h => by simp [DataW.trod] at h⟩
  | fuel + 1 => by
    obtain ⟨ih1, ih2⟩ := rdF_arr hT fuel
    refine ⟨fun cs x h hw => ?_, rdF_list hT.uk (by rw [hT.ca]; rfl) hT.ba ih1⟩
    obtain ⟨fs, hu, hf⟩ := hT.fs
    obtain ⟨f, xs, hff, hl, hm, rfl⟩ := trod_struct hu h
    obtain rfl : fuel = f := by omega
    rw [hT.ca] at hl
    match cs, hl with
    | [c0, c1, c2, c3, c4, c5, c6], _ =>
      obtain ⟨f0, f1, f2, f3, f4, f5, f6, hfs⟩ : ∃ f0 f1 f2 f3 f4 f5 f6, fs.toList = [f0, f1, f2, f3, f4, f5, f6] := by
        have := congrArg List.length hf
        simp only [List.length_map, List.length_cons, List.length_nil] at this
        match fs.toList, this with
        | [a, b, c, d, e, f, g], _ => exact ⟨a, b, c, d, e, f, g, rfl⟩
      rw [hfs] at hf hm
      simp only [List.map_cons, List.map_nil, List.cons.injEq, Prod.mk.injEq, and_true] at hf
      obtain ⟨⟨o0, t0⟩, ⟨o1, t1⟩, ⟨o2, t2⟩, ⟨o3, t3⟩, ⟨o4, t4⟩, ⟨o5, t5⟩, ⟨o6, t6⟩⟩ := hf
      obtain ⟨y0, z0, h0, hm0, rfl⟩ := mapM_cons_some hm
      obtain ⟨y1, z1, h1, hm1, rfl⟩ := mapM_cons_some hm0
      obtain ⟨y2, z2, h2, hm2, rfl⟩ := mapM_cons_some hm1
      obtain ⟨y3, z3, h3, hm3, rfl⟩ := mapM_cons_some hm2
      obtain ⟨y4, z4, h4, hm4, rfl⟩ := mapM_cons_some hm3
      obtain ⟨y5, z5, h5, hm5, rfl⟩ := mapM_cons_some hm4
      obtain ⟨y6, z6, h6, hm6, rfl⟩ := mapM_cons_some hm5
      simp only [List.mapM_nil, Option.pure_def, Option.some.injEq] at hm6
      subst hm6
      rw [o0, t0, hT.ci] at h0
      rw [o1, t1, hT.ci] at h1
      rw [o2, t2, hT.ci] at h2
      rw [o3, t3, hT.cs] at h3
      rw [o4, t4, hT.cs] at h4
      rw [o5, t5, hT.cs] at h5
      rw [o6, t6, hT.ck] at h6
      have wts : ∀ w, w ∈ y0.1.weights P ti ++ (y1.1.weights P ti ++ (y2.1.weights P ti ++ (y3.1.weights P ts ++ (y4.1.weights P ts ++ (y5.1.weights P ts ++ y6.1.weights P tk))))) → w ≤ 140737488351232 := by
        intro w hw'
        refine hw w ?_
        simp only [List.map_cons, List.map_nil, DataW.weights, hu, hfs, t0, t1, t2, t3, t4, t5, t6, DataW.weightsEach, List.append_nil]
        exact hw'
      obtain ⟨n0, w0, r0⟩ := rdF_int hT.ui fuel _ _ h0 (fun w hw' => wts w (by simp [hw']))
      obtain ⟨n1, w1, r1⟩ := rdF_int hT.ui fuel _ _ h1 (fun w hw' => wts w (by simp [hw']))
      obtain ⟨n2, w2, r2⟩ := rdF_int hT.ui fuel _ _ h2 (fun w hw' => wts w (by simp [hw']))
      obtain ⟨n3, w3, r3⟩ := rdF_str hT.us fuel _ _ h3 (fun w hw' => wts w (by simp [hw']))
      obtain ⟨n4, w4, r4⟩ := rdF_str hT.us fuel _ _ h4 (fun w hw' => wts w (by simp [hw']))
      obtain ⟨n5, w5, r5⟩ := rdF_str hT.us fuel _ _ h5 (fun w hw' => wts w (by simp [hw']))
      obtain ⟨n6, ⟨w6, w6'⟩, r6⟩ := ih2 _ _ h6 (fun w hw' => wts w (by simp [hw']))
      refine ⟨.mk n0 n1 n2 n3 n4 n5 n6, fun d => ?_, .cons (rep_one r0) (.cons (rep_one r1) (.cons (rep_one r2) (.cons (rep_one r3) (.cons (rep_one r4) (.cons (rep_one r5) (.cons (rep_one r6) .nil))))))⟩
      cases d with
      | zero => trivial
      | succ d => exact ⟨i64_wf w1, i64_wf w2, Int.ofNat_le.2 w3, Int.ofNat_le.2 w4, Int.ofNat_le.2 w5, w6, fun k hk => w6' k hk d⟩
theorem wOK_each {ts : List TypeId} {ds : List (DataW H)} (hsz : (DataW.weightsEach P ts ds).all (· ≤ reachBytes) = true) {j : Nat} {T : TypeId} {d : DataW H} (ht : ts[j]? = some T) (hd : ds[j]? = some d) : wOK P T d := by
  intro w hw
  have := List.all_eq_true.1 hsz _ (DataW.weights_mem_each ht hd w hw)
  show w ≤ reachBytes
  exact of_decide_eq_true this
/-- An array. -/
theorem open_arr {TA ti ts tk : TypeId} (hT : ArrTys P TA ti ts tk) {r : Reach} {base : Nat} {v : Value} (hval : Value.okWide P W r base TA v) {d : DataW H} {ps : List MemPlace} (h : DataW.Trod enc P W 0 (fun _ => true) true TA v d ps)
    {tt : List TypeId} {ds : List (DataW H)} (hsz : (DataW.weightsEach P tt ds).all (· ≤ reachBytes) = true) {j : Nat} (ht : tt[j]? = some TA) (hd : ds[j]? = some d) :
    ∃ (vs : List Value) (x : Arr), v = .agg vs.toArray ∧ RepL W gAll (El.arr.cells x) vs ∧ RoomyA x := by
  obtain ⟨fs, hu, _⟩ := hT.fs
  obtain ⟨cs, rfl, hsize⟩ := WideShapes.okWide_struct hu hval
  obtain ⟨fuel, hf⟩ := h
  obtain ⟨y, h1, h2⟩ := (rdF_arr hT fuel).1 _ _ hf (wOK_each hsz ht hd)
  exact ⟨cs.toList, y, by simp, h2, h1⟩

end
end Go.Proofs.YtjkokaockhecnaaGreatDoorA
