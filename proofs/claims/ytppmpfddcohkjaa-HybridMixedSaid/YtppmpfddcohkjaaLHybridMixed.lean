/- HybridMixed: for every input the law quiverlaw21.HybridMixed returns true, and each argument reads afterwards as it read before; no condition. -/
import Derived.Test.YtppmpfddcohkjaaRows
import Derived.Test.YtppmpfddcohkjaaPHyX
import Derived.Test.YtppmpfddcohkjaaArg3
import Derived.WalkKit
import Derived.ProofKit
import Derived.OpenShut
import Derived.ShutString
import Derived.ChangeOld
import Derived.Below
import Derived.Carry
import Derived.SizedLaws
import Derived.KernelRfl
namespace Go.Proofs.YtppmpfddcohkjaaA
open Go
set_option linter.unusedVariables false
theorem walk_hybridMixed (v0 : Value) (x0 : List (El.den (.int .i64))) (a1 : Int) (W : World) (r0 : RepA W gAll (.L (.int .i64) x0) v0) (o0 : ∀ x ∈ x0, El.ok (.int .i64) x) (w0 : x0.length * 8 ≤ 140737488351232) (w1 : (Lit.int .i64 a1).wf = true) (hT : Tabs W) :
    Calls Go.Proofs.Try.prog 17 #[v0, .int .i64 a1] W fun e w' => e = .returned (.bool true) ∧ RowKit.Below W.heap.size W w' := by
  have l0 : (x0.length : Int) * 8 ≤ 140737488351232 := by omega
  have h1 := i64_wf w1
  obtain ⟨k, h⟩ := YtppmpfddcohkjaaP.pure_HybridMixed x0 a1
  exact (lv_ok k).law (f := 17) (us := [.L (.int .i64) x0, .int .i64 a1]) (r := true) h (by kernel_rfl) HEq.rfl (vals := [v0, .int .i64 a1]) (tabs_ok hT)
    (.cons (r0) (.cons (.int _ _) .nil))
end Go.Proofs.YtppmpfddcohkjaaA
namespace Go.Proofs.Ytppmpfddcohkjaa.hybridMixed
open Go.ChangeShapes Go.WideShapes Go.ChangeAt Go.RowKit
open Go.ChangeMaps (open_string shut_string)
set_option linter.unusedVariables false
theorem own : ownKnob Try.prog.godebug = none := by kernel_rfl
theorem laidOut : laidOutB Try.prog = true := by kernel_rfl
set_option maxRecDepth 100000 in
theorem lifted (os : Os) (started : os.Started) (H : Type) (enc : TypeId × Value → H) :
    ReturnsInHanded {} Try.checked os 17 .any (Rows.hybridMixedSpec.pre6 enc Try.prog Try.f17 Rows.hybridMixedRow.domain false) (Rows.hybridMixedSpec.post enc Try.prog Try.f17 false true false false) := by
  refine returnsInHanded_of_change_sized (C := Try.checked) own started (by kernel_rfl) Try.func17
    (ChangeSpec.witness6 (enc := enc) (C := Try.checked) false ⟨#[], #[.slice none 0 0, .int .i64 0], []⟩ 8 (by kernel_rfl) (by kernel_rfl) (by kernel_rfl) (by kernel_rfl)) ?_
  intro W base args ds gs before hval0 hW hcnd hsz0 _
  have hsz : (DataW.weightsEach Try.prog (Try.f17.params.toList ++ Rows.hybridMixedSpec.plain.varTypes Try.prog) (ds ++ gs)).all (· ≤ reachBytes) = true := hsz0
  have hval : ∀ (j : Nat) t v, Try.f17.params[j]? = some t → args[j]? = some v → Value.okWide Try.prog W .any base t v := hval0
  have hW' := hW
  obtain ⟨p, q, hA0, hV, rfl, hfz, hnd⟩ := hW
  have hA : DataW.TrodAll enc Try.prog W 0 (fun _ => true) true Try.f17.params.toList args.toList ds p := hA0
  rw [Try.params17] at hA hval hsz
  have hT : YtppmpfddcohkjaaA.Tabs W := trivial
  obtain ⟨v0, vs0, d0, ds0, p0, q0, hargs, rfl, rfl, k0, t0⟩ := trodAll_cons hA
  obtain ⟨v1, vs1, d1, ds1, p1, q1, rfl, rfl, rfl, k1, t1⟩ := trodAll_cons t0
  obtain ⟨rfl, rfl, rfl⟩ := trodAll_nil t1
  obtain rfl : args = #[v0, v1] := by cases args; simp_all
  obtain ⟨rfl, rfl⟩ := trodVars_none hV
  have m0 : ∀ x ∈ p0, x.block < W.heap.size := by obtain ⟨m, hm⟩ := k0; exact DataW.trod_lt m _ _ _ hm
  have z0 := k0
  obtain ⟨b0, len0, cap0, rfl⟩ := okWide_slice Try.underlying57 (hval 0 57 v0 rfl rfl)
  obtain ⟨x0, r0, e0, o0, bu0⟩ := YtppmpfddcohkjaaA.list_arg (YtppmpfddcohkjaaA.reads_list YtppmpfddcohkjaaA.counts Try.underlying57 (by kernel_rfl) (YtppmpfddcohkjaaA.reads_int YtppmpfddcohkjaaA.counts Try.underlying3)) k0
  have w0 : x0.length * 8 ≤ 140737488351232 := by rw [e0]; exact YtppmpfddcohkjaaA.sized_list hsz (j := 0) rfl rfl Try.underlying57 (by kernel_rfl) k0
  have m1 : ∀ x ∈ p1, x.block < W.heap.size := by obtain ⟨m, hm⟩ := k1; exact DataW.trod_lt m _ _ _ hm
  have z1 := k1
  obtain ⟨a1, rfl, rfl, rfl, w1⟩ := open_int Try.underlying3 (hval 1 3 v1 rfl rfl) k1
  clear hA0 hval0 hsz0 hsz
  refine (YtppmpfddcohkjaaA.walk_hybridMixed _ x0 a1 W r0 o0 w0 w1 hT).mono fun e W' ⟨he, bel⟩ => ?_
  subst he
  exact ⟨_, rfl, _, _, _, [], _, [], hW', trodAll_mk1 (shut_bool Try.underlying4 _), (trodAll_cons_mk (Below.trod laidOut (by kernel_rfl) (of_decide_eq_true (by kernel_rfl)) z0 bel m0) (trodAll_cons_mk (Below.trod laidOut (by kernel_rfl) (of_decide_eq_true (by kernel_rfl)) z1 bel m1) trodAll_mk0)), rfl, bel.frame _, fun h => by cases h⟩
theorem over : Rows.hybridMixedRow.holds Try.pinned (OpenSpec.ofChange Rows.hybridMixedSpec) :=
  OpenClaim.holds_of_wide 17 Try.f17 rfl rfl rfl rfl rfl rfl rfl ⟨rfl, rfl, rfl, rfl, rfl⟩ rfl rfl rfl rfl rfl (by kernel_rfl) Try.func17 (by kernel_rfl)
    (of_decide_eq_true (by kernel_rfl)) (by unfold Func.isWrapper; first | (rw [if_pos (by decide +kernel)]; kernel_rfl) | (rw [if_neg (by decide +kernel)]; exact ⟨rfl, rfl⟩))
    (fun os started H enc _ => lifted os started H enc)
end Go.Proofs.Ytppmpfddcohkjaa.hybridMixed
namespace Go.Proofs.Ytppmpfddcohkjaa
/-- The row. -/
theorem hybridMixed_holds : Rows.HybridMixedSaid := hybridMixed.over
#print axioms hybridMixed_holds
end Go.Proofs.Ytppmpfddcohkjaa
