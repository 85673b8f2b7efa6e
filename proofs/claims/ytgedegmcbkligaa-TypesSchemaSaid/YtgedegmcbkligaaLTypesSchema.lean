/- TypesSchema: for every input the law quiverlaw5.TypesSchema returns true, and each argument reads afterwards as it read before; no condition. -/
import Derived.Test.YtgedegmcbkligaaRows
import Derived.Test.YtgedegmcbkligaaPTypes
import Derived.Test.YtgedegmcbkligaaArg3
import Derived.WalkKit
import Derived.ProofKit
import Derived.OpenShut
import Derived.ShutString
import Derived.ChangeOld
import Derived.Below
import Derived.Carry
import Derived.SizedLaws
import Derived.KernelRfl
namespace Go.Proofs.YtgedegmcbkligaaA
open Go
theorem walk_typesSchema (v0 : Value) (x0 : List (El.den .node)) (W : World) (r0 : RepA W gAll (.L .node x0) v0) (o0 : ∀ x ∈ x0, El.ok .node x) (w0 : x0.length * 24 ≤ 140737488351232) :
    Calls Go.Proofs.Try.prog 18 #[.agg #[v0]] W fun e w' => e = .returned (.bool true) ∧ RowKit.Below W.heap.size W w' := by
  have l0 : (x0.length : Int) * 24 ≤ 140737488351232 := by omega
  obtain ⟨k, h⟩ := YtgedegmcbkligaaP.pure_TypesSchema x0 l0
  exact (lv_ok k).law (f := 18) (us := [.agg [.L .node x0]]) (r := true) h (by kernel_rfl) HEq.rfl (vals := [.agg #[v0]])
    (.cons ((RepL.cons r0 .nil).agg) .nil)
end Go.Proofs.YtgedegmcbkligaaA
namespace Go.Proofs.Ytgedegmcbkligaa.typesSchema
open Go.ChangeShapes Go.WideShapes Go.ChangeAt Go.RowKit
open Go.ChangeMaps (open_string shut_string)
set_option linter.unusedVariables false
theorem own : ownKnob Try.prog.godebug = none := by kernel_rfl
theorem laidOut : laidOutB Try.prog = true := by kernel_rfl
set_option maxRecDepth 100000 in
theorem lifted (os : Os) (started : os.Started) (H : Type) (enc : TypeId × Value → H) :
    ReturnsInHanded {} Try.checked os 18 .any (Rows.typesSchemaSpec.pre6 enc Try.prog Try.f18 Rows.typesSchemaRow.domain false) (Rows.typesSchemaSpec.post enc Try.prog Try.f18 false true false false) := by
  refine returnsInHanded_of_change_sized (C := Try.checked) own started (by kernel_rfl) Try.func18
    (ChangeSpec.witness6 (enc := enc) (C := Try.checked) false ⟨#[], #[.agg #[.slice none 0 0]], []⟩ 8 (by kernel_rfl) (by kernel_rfl) (by kernel_rfl) (by kernel_rfl)) ?_
  intro W base args ds gs before hval0 hW hcnd hsz0 _
  have hsz : (DataW.weightsEach Try.prog (Try.f18.params.toList ++ Rows.typesSchemaSpec.plain.varTypes Try.prog) (ds ++ gs)).all (· ≤ reachBytes) = true := hsz0
  have hval : ∀ (j : Nat) t v, Try.f18.params[j]? = some t → args[j]? = some v → Value.okWide Try.prog W .any base t v := hval0
  have hW' := hW
  obtain ⟨p, q, hA0, hV, rfl, hfz, hnd⟩ := hW
  have hA : DataW.TrodAll enc Try.prog W 0 (fun _ => true) true Try.f18.params.toList args.toList ds p := hA0
  rw [Try.params18] at hA hval hsz
  obtain ⟨v0, vs0, d0, ds0, p0, q0, hargs, rfl, rfl, k0, t0⟩ := trodAll_cons hA
  obtain ⟨rfl, rfl, rfl⟩ := trodAll_nil t0
  obtain rfl : args = #[v0] := by cases args; simp_all
  obtain ⟨rfl, rfl⟩ := trodVars_none hV
  have m0 : ∀ x ∈ p0, x.block < W.heap.size := by obtain ⟨m, hm⟩ := k0; exact DataW.trod_lt m _ _ _ hm
  have z0 := k0
  obtain ⟨vv0, x0, rfl, r0, o0, w0, bu0⟩ := YtgedegmcbkligaaA.open_type Try.underlying48 (by kernel_rfl) (by kernel_rfl) (by kernel_rfl) Try.underlying46 (B := 24) (by kernel_rfl)
    (YtgedegmcbkligaaA.reads_list YtgedegmcbkligaaA.counts Try.underlying46 (by kernel_rfl) (t := .node) (YtgedegmcbkligaaA.reads_node Try.underlying60 (by kernel_rfl) (by kernel_rfl) (by kernel_rfl) (by kernel_rfl) Try.underlying3 Try.underlying4)) (hval 0 48 v0 rfl rfl) k0 hsz (j := 0) rfl rfl
  clear hA0 hval0 hsz0 hsz
  refine (YtgedegmcbkligaaA.walk_typesSchema _ x0 W r0 o0 w0).mono fun e W' ⟨he, bel⟩ => ?_
  subst he
  exact ⟨_, rfl, _, _, _, [], _, [], hW', trodAll_mk1 (shut_bool Try.underlying4 _), (trodAll_cons_mk (Below.trod laidOut (by kernel_rfl) (of_decide_eq_true (by kernel_rfl)) z0 bel m0) trodAll_mk0), rfl, bel.frame _, fun h => by cases h⟩
theorem over : Rows.typesSchemaRow.holds Try.pinned (OpenSpec.ofChange Rows.typesSchemaSpec) :=
  OpenClaim.holds_of_wide 18 Try.f18 rfl rfl rfl rfl rfl rfl rfl ⟨rfl, rfl, rfl, rfl, rfl⟩ rfl rfl rfl rfl rfl (by kernel_rfl) Try.func18 (by kernel_rfl)
    (of_decide_eq_true (by kernel_rfl)) (by unfold Func.isWrapper; first | (rw [if_pos (by decide +kernel)]; kernel_rfl) | (rw [if_neg (by decide +kernel)]; exact ⟨rfl, rfl⟩))
    (fun os started H enc _ => lifted os started H enc)
end Go.Proofs.Ytgedegmcbkligaa.typesSchema
namespace Go.Proofs.Ytgedegmcbkligaa
/-- The row. -/
theorem typesSchema_holds : Rows.TypesSchemaSaid := typesSchema.over
#print axioms typesSchema_holds
end Go.Proofs.Ytgedegmcbkligaa
