/- SchemaForms, as the machine answers it; no condition. -/
import Derived.Test.YtgedegmcbkligaaPSchema2
namespace Go.Proofs.YtgedegmcbkligaaP
open Go Go.Proofs.YtgedegmcbkligaaA

theorem cond_pos' {α : Type} {b : Bool} (h : b = true) (x y : α) : (bif b then x else y) = x := by subst h; rfl
theorem dist_of (a1 : Int) : ∃ d : Int, IntKind.i64.wrap (1 + (bitsOp .and .i64 a1 1023)) = d ∧ 1 ≤ d ∧ d ≤ 1024 := by
  have h := and_mask a1 10 (by omega)
  rw [show (2 : Int) ^ 10 - 1 = 1023 by decide, show (2 : Int) ^ 10 = 1024 by decide] at h
  rw [h, wi64 _ (by omega)]
  exact ⟨_, rfl, by omega, by omega⟩
theorem mayT_bad {t : List Nod} {i : Nat} (hi : i < t.length) (h : kindB t i = false ∨ standsB t i = false) : mayT t = false := by
  cases hm : mayT t with
  | false => rfl
  | true =>
    obtain ⟨h1, h2⟩ := ((mayT_iff t).1 hm).2.1 i hi
    rcases h with h | h
    · rw [h] at h1; exact absurd h1 (by decide)
    · rw [h] at h2; exact absurd h2 (by decide)

theorem pure_SchemaForms (a0 a1 : Int) : ∃ k, quiverlaw6_SchemaForms.f idb k a0 a1 = some true := by
  refine ⟨1000 + 1, ?_⟩
  rw [quiverlaw6_SchemaForms.f_eq]
  obtain ⟨d, hd, hd1, hd2⟩ := dist_of a1
  have hp : schema_Put.f idb 1000 [(Nod.mk (IntKind.i64.wrap (4 + d)) (-1) false)] = some ([], 600) := by
    rw [schema_Put_ok (by omega), putS, mayT_bad (i := 0) (by rw [List.length_cons]; omega) (.inl ?_)]
    · rfl
    · rw [wi64 _ (by omega)]
      unfold kindB
      have : knd [(Nod.mk (4 + d) (-1) false)] 0 = 4 + d := rfl
      rw [this]
      have h2 : ¬ (4 + d ≤ 4) := by omega
      simp [h2]
  rw [hd, hp, show quiverlaw6_awake.f idb 1000 = some true from awake6 940]
  simp only [Option.bind_some, Bool.not_true, cond_false]
  obtain ⟨u1, u2, u3⟩ := u64_mod a0 11 (by omega) (by omega)
  generalize hx : IntKind.i64.wrap (Int.tmod (IntKind.u64.wrap a0) 11) = x
  have hx' : IntKind.i64.wrap (Int.tmod (IntKind.u64.wrap a0) ((11 : Nat) : Int)) = x := hx
  rw [hx'] at u2 u3
  repeat rw [cond_pos' (by decide +kernel)]
  have hlen : x < ((11 : Nat) : Int) := u3
  have hb : (decide (0 ≤ x) && decide (x < ((11 : Nat) : Int))) = true := by simp; omega
  refine (cond_pos' hb _ _).trans ?_
  obtain ⟨e, he, hq1, hq2⟩ := pick (Q := fun e : List UInt8 => e.length ≤ 100 ∧ getS e = ([], 600)) (l := [([] : List UInt8), [0], [2, 3, 0, 0, 1, 1], [2, 3, 0, 0, 1, 1, 1, 120], [1, 3, 0, 0, 1, 1, 1], [2, 5, 0, 0, 1, 1, 1], [2, 3, 1, 0, 1, 1, 1], [2, 3, 0, 2, 1, 1, 1], [2, 3, 0, 0, 1, 2, 1], [2, 3, 0, 0, 1, 0, 1], [9, 3, 0, 0, 1, 1, 1]]) (by decide +kernel) u2 (by simpa using u3)
  refine (congrArg (fun o : Option (List UInt8) => o.bind _) he).trans ?_
  have hg := schema_Get_ok (k := 1000) (by omega) e (by omega)
  rw [hq2] at hg
  simp only [Option.bind_some, hg]
  simp only [law0_Num (show 1 ≤ 1000 by omega), Option.bind_some, beq_self_eq_true, cond]

end Go.Proofs.YtgedegmcbkligaaP
