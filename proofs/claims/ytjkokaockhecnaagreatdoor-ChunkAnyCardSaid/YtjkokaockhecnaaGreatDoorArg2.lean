/- What a row's bounds say of the arguments, in the machine's words; no condition. -/
import Derived.Test.YtjkokaockhecnaaGreatDoorRows
import Derived.Test.YtjkokaockhecnaaGreatDoorArg
import Derived.SizedLaws
namespace Go.Proofs.YtjkokaockhecnaaGreatDoorA
open Go Go.Proofs.YtjkokaockhecnaaGreatDoor

theorem counts {H : Type} : Counts (H := H) Rows.uptoBulk Rows.uptoBulkAll := by
  refine ⟨fun d => ?_, fun l => by simp [Rows.uptoBulk], fun es sp => by simp [Rows.uptoBulk], by simp [Rows.uptoBulkAll], fun d l => by simp [Rows.uptoBulkAll]⟩
  cases d with
  | lit l => cases l <;> simp [Rows.uptoBulk]
  | nil => simp [Rows.uptoBulk]
  | ptr d => simp [Rows.uptoBulk]
  | slice elems spare => simp [Rows.uptoBulk]
  | agg parts => simp [Rows.uptoBulk]
  | iface t d => simp [Rows.uptoBulk]
  | map entries => simp [Rows.uptoBulk]
  | held h => simp [Rows.uptoBulk]

theorem i64_wf {n : Int} (h : (Lit.int .i64 n).wf = true) : -9223372036854775808 ≤ n ∧ n ≤ 9223372036854775807 := by
  simpa [Lit.wf, IntKind.min, IntKind.max, IntKind.signed, IntKind.bits] using h

/-- A slice that a row reads. -/
theorem sized_list {H : Type} {enc : TypeId × Value → H} {P : Program} {W : World} {T e : TypeId} {a : Option Addr} {len cap : Nat} {d : DataW H} {ps : List MemPlace} {ts : List TypeId} {ds : List (DataW H)} {j B : Nat}
    (hsz : (DataW.weightsEach P ts ds).all (· ≤ reachBytes) = true) (ht : ts[j]? = some T) (hd : ds[j]? = some d) (hu : P.underlying T = some (.slice e)) (hB : P.bytesOf e = B)
    (h : DataW.Trod enc P W 0 (fun _ => true) true T (.slice a len cap) d ps) : len * B ≤ 140737488351232 := by
  obtain ⟨fuel, hf⟩ := h
  rcases Deep.open_slice hu hf with ⟨hcs, _⟩ | ⟨x, l, c, m, n, D, Pl, hcs, _, hl, hm, hmm, hx, _⟩
  · simp [Value.cells] at hcs
    obtain ⟨rfl, rfl, rfl⟩ := hcs
    simp
  · simp [Value.cells] at hcs
    obtain ⟨rfl, rfl, rfl⟩ := hcs
    obtain ⟨hx, _⟩ := Prod.mk.inj hx
    subst hx
    have z := sized_slice hsz ht hd hu
    rw [hB] at z
    simp only [List.length_map, List.length_range] at z
    exact Nat.le_trans (Nat.mul_le_mul_right _ (by omega)) z
/-- Its elements. -/
theorem list_arg {H : Type} {enc : TypeId × Value → H} {P : Program} {W : World} {T : TypeId} {t : El} {a : Option Addr} {len cap : Nat} {d : DataW H} {ps : List MemPlace} (hr : Reads (H := H) Rows.uptoBulk enc P W T (.list t))
    (h : DataW.Trod enc P W 0 (fun _ => true) true T (.slice a len cap) d ps) : ∃ xs : List t.den, RepA W gAll (.L t xs) (.slice a len cap) ∧ xs.length = len ∧ (∀ x ∈ xs, El.ok t x) ∧ (El.list t).bulk xs ≤ Rows.uptoBulk d := by
  obtain ⟨fuel, hf⟩ := h
  obtain ⟨xs, h1, h2, h3⟩ := hr fuel _ _ hf
  have h2' : RepL W gAll [.L t xs] [.slice a len cap] := h2
  have h4 : RepA W gAll (.L t xs) (.slice a len cap) := h2'.2 0 (by simp) (by simp)
  refine ⟨xs, h4, ?_, h1.2, h3⟩
  cases h4 <;> rfl

end Go.Proofs.YtjkokaockhecnaaGreatDoorA
