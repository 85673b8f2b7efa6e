/- NumRow: for every input the law quiverlaw3.NumRow returns true, and each argument reads afterwards as it read before; no condition. -/
import Derived.Test.YtgedegmcbkligaaRows
import Derived.Test.YtgedegmcbkligaaPNum4
import Derived.Test.YtgedegmcbkligaaArg2
import Derived.WalkKit
import Derived.ProofKit
import Derived.OpenShut
import Derived.ShutString
import Derived.ChangeOld
import Derived.Below
import Derived.Carry
import Derived.SizedLaws
import Derived.KernelRfl
namespace Go.Proofs.YtgedegmcbkligaaA
open Go
theorem walk_numRow (v0 : Value) (x0 : List (El.den (.int .i64))) (W : World) (r0 : RepA W gAll (.L (.int .i64) x0) v0) (o0 : ∀ x ∈ x0, El.ok (.int .i64) x) (w0 : x0.length * 8 ≤ 140737488351232) :
    Calls Go.Proofs.Try.prog 6 #[v0] W fun e w' => e = .returned (.bool true) ∧ RowKit.Below W.heap.size W w' := by
  have l0 : (x0.length : Int) * 8 ≤ 140737488351232 := by omega
  obtain ⟨k, h⟩ := YtgedegmcbkligaaP.pure_NumRow x0 (by omega)
  exact (lv_ok k).law (f := 6) (us := [.L (.int .i64) x0]) (r := true) h (by kernel_rfl) HEq.rfl (vals := [v0])
    (.cons (r0) .nil)
end Go.Proofs.YtgedegmcbkligaaA
namespace Go.Proofs.Ytgedegmcbkligaa.numRow
open Go.ChangeShapes Go.WideShapes Go.ChangeAt Go.RowKit
open Go.ChangeMaps (open_string shut_string)
set_option linter.unusedVariables false
theorem own : ownKnob Try.prog.godebug = none := by kernel_rfl
theorem laidOut : laidOutB Try.prog = true := by kernel_rfl
set_option maxRecDepth 100000 in
theorem lifted (os : Os) (started : os.Started) (H : Type) (enc : TypeId × Value → H) :
    ReturnsInHanded {} Try.checked os 6 .any (Rows.numRowSpec.pre6 enc Try.prog Try.f6 Rows.numRowRow.domain false) (Rows.numRowSpec.post enc Try.prog Try.f6 false true false false) := by
  refine returnsInHanded_of_change_sized (C := Try.checked) own started (by kernel_rfl) Try.func6
    (ChangeSpec.witness6 (enc := enc) (C := Try.checked) false ⟨#[], #[.slice none 0 0], []⟩ 8 (by kernel_rfl) (by kernel_rfl) (by kernel_rfl) (by kernel_rfl)) ?_
  intro W base args ds gs before hval0 hW hcnd hsz0 _
  have hsz : (DataW.weightsEach Try.prog (Try.f6.params.toList ++ Rows.numRowSpec.plain.varTypes Try.prog) (ds ++ gs)).all (· ≤ reachBytes) = true := hsz0
  have hval : ∀ (j : Nat) t v, Try.f6.params[j]? = some t → args[j]? = some v → Value.okWide Try.prog W .any base t v := hval0
  have hW' := hW
  obtain ⟨p, q, hA0, hV, rfl, hfz, hnd⟩ := hW
  have hA : DataW.TrodAll enc Try.prog W 0 (fun _ => true) true Try.f6.params.toList args.toList ds p := hA0
  rw [Try.params6] at hA hval hsz
  obtain ⟨v0, vs0, d0, ds0, p0, q0, hargs, rfl, rfl, k0, t0⟩ := trodAll_cons hA
  obtain ⟨rfl, rfl, rfl⟩ := trodAll_nil t0
  obtain rfl : args = #[v0] := by cases args; simp_all
  obtain ⟨rfl, rfl⟩ := trodVars_none hV
  have m0 : ∀ x ∈ p0, x.block < W.heap.size := by obtain ⟨m, hm⟩ := k0; exact DataW.trod_lt m _ _ _ hm
  have z0 := k0
  obtain ⟨b0, len0, cap0, rfl⟩ := okWide_slice Try.underlying41 (hval 0 41 v0 rfl rfl)
  obtain ⟨x0, r0, e0, o0, bu0⟩ := YtgedegmcbkligaaA.list_arg (YtgedegmcbkligaaA.reads_list YtgedegmcbkligaaA.counts Try.underlying41 (by kernel_rfl) (YtgedegmcbkligaaA.reads_int YtgedegmcbkligaaA.counts Try.underlying3)) k0
  have w0 : x0.length * 8 ≤ 140737488351232 := by rw [e0]; exact YtgedegmcbkligaaA.sized_list hsz (j := 0) rfl rfl Try.underlying41 (by kernel_rfl) k0
  clear hA0 hval0 hsz0 hsz
  refine (YtgedegmcbkligaaA.walk_numRow _ x0 W r0 o0 w0).mono fun e W' ⟨he, bel⟩ => ?_
  subst he
  exact ⟨_, rfl, _, _, _, [], _, [], hW', trodAll_mk1 (shut_bool Try.underlying4 _), (trodAll_cons_mk (Below.trod laidOut (by kernel_rfl) (of_decide_eq_true (by kernel_rfl)) z0 bel m0) trodAll_mk0), rfl, bel.frame _, fun h => by cases h⟩
theorem over : Rows.numRowRow.holds Try.pinned (OpenSpec.ofChange Rows.numRowSpec) :=
  OpenClaim.holds_of_wide 6 Try.f6 rfl rfl rfl rfl rfl rfl rfl ⟨rfl, rfl, rfl, rfl, rfl⟩ rfl rfl rfl rfl rfl (by kernel_rfl) Try.func6 (by kernel_rfl)
    (of_decide_eq_true (by kernel_rfl)) (by unfold Func.isWrapper; first | (rw [if_pos (by decide +kernel)]; kernel_rfl) | (rw [if_neg (by decide +kernel)]; exact ⟨rfl, rfl⟩))
    (fun os started H enc _ => lifted os started H enc)
end Go.Proofs.Ytgedegmcbkligaa.numRow
namespace Go.Proofs.Ytgedegmcbkligaa
/-- The row. -/
theorem numRow_holds : Rows.NumRowSaid := numRow.over
#print axioms numRow_holds
end Go.Proofs.Ytgedegmcbkligaa
