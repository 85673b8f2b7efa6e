/- SliceRows: for every input the law quiverlaw11.SliceRows returns true, and each argument reads afterwards as it read before; no condition. -/
import Derived.Test.YtppmpfddcohkjaaRows
import Derived.Test.YtppmpfddcohkjaaPSli
import Derived.Test.YtppmpfddcohkjaaArg4
import Derived.WalkKit
import Derived.ProofKit
import Derived.OpenShut
import Derived.ShutString
import Derived.ChangeOld
import Derived.Below
import Derived.Carry
import Derived.SizedLaws
import Derived.KernelRfl
namespace Go.Proofs.YtppmpfddcohkjaaA
open Go
theorem walk_sliceRows (v0 : Value) (x0 : List (El.den .node)) (a1 : Int) (v2 : List Value) (x2 : Arr) (a3 : Int) (a4 : Int) (a5 : Int) (W : World) (r0 : RepA W gAll (.L .node x0) v0) (o0 : ∀ x ∈ x0, El.ok .node x) (w0 : x0.length * 24 ≤ 140737488351232) (w1 : (Lit.int .i64 a1).wf = true) (r2 : RepL W gAll (El.arr.cells x2) v2) (y2 : RoomyA x2) (w3 : (Lit.int .i64 a3).wf = true) (w4 : (Lit.int .i64 a4).wf = true) (w5 : (Lit.int .i64 a5).wf = true) :
    Calls Go.Proofs.Try.prog 9 #[.agg #[v0], .int .i64 a1, .agg v2.toArray, .int .i64 a3, .int .i64 a4, .int .i64 a5] W fun e w' => e = .returned (.bool true) ∧ RowKit.Below W.heap.size W w' := by
  have l0 : (x0.length : Int) * 24 ≤ 140737488351232 := by omega
  have h1 := i64_wf w1
  have h3 := i64_wf w3
  have h4 := i64_wf w4
  have h5 := i64_wf w5
  obtain ⟨k, h⟩ := YtppmpfddcohkjaaP.pure_SliceRows x0 a1 x2 a3 a4 a5 y2
  exact (lv_ok k).law (f := 9) (us := [.agg [.L .node x0], .int .i64 a1, .agg [.int .i64 x2.layout, .int .i64 x2.offset, .int .i64 x2.length, .str x2.valid, .str x2.ends, .str x2.data, .L .arr x2.kids], .int .i64 a3, .int .i64 a4, .int .i64 a5]) (r := true) h (by kernel_rfl) HEq.rfl (vals := [.agg #[v0], .int .i64 a1, .agg v2.toArray, .int .i64 a3, .int .i64 a4, .int .i64 a5])
    (.cons ((RepL.cons r0 .nil).agg) (.cons (.int _ _) (.cons ((RepL.agg r2)) (.cons (.int _ _) (.cons (.int _ _) (.cons (.int _ _) .nil))))))
end Go.Proofs.YtppmpfddcohkjaaA
namespace Go.Proofs.Ytppmpfddcohkjaa.sliceRows
open Go.ChangeShapes Go.WideShapes Go.ChangeAt Go.RowKit
open Go.ChangeMaps (open_string shut_string)
set_option linter.unusedVariables false
theorem own : ownKnob Try.prog.godebug = none := by kernel_rfl
theorem laidOut : laidOutB Try.prog = true := by kernel_rfl
set_option maxRecDepth 100000 in
theorem lifted (os : Os) (started : os.Started) (H : Type) (enc : TypeId × Value → H) :
    ReturnsInHanded {} Try.checked os 9 .any (Rows.sliceRowsSpec.pre6 enc Try.prog Try.f9 Rows.sliceRowsRow.domain false) (Rows.sliceRowsSpec.post enc Try.prog Try.f9 false true false false) := by
  refine returnsInHanded_of_change_sized (C := Try.checked) own started (by kernel_rfl) Try.func9
    (ChangeSpec.witness6 (enc := enc) (C := Try.checked) false ⟨#[], #[.agg #[.slice none 0 0], .int .i64 0, .agg #[.int .i64 0, .int .i64 0, .int .i64 0, .string ByteArray.empty, .string ByteArray.empty, .string ByteArray.empty, .slice none 0 0], .int .i64 0, .int .i64 0, .int .i64 0], []⟩ 8 (by kernel_rfl) (by kernel_rfl) (by kernel_rfl) (by kernel_rfl)) ?_
  intro W base args ds gs before hval0 hW hcnd hsz0 _
  have hsz : (DataW.weightsEach Try.prog (Try.f9.params.toList ++ Rows.sliceRowsSpec.plain.varTypes Try.prog) (ds ++ gs)).all (· ≤ reachBytes) = true := hsz0
  have hval : ∀ (j : Nat) t v, Try.f9.params[j]? = some t → args[j]? = some v → Value.okWide Try.prog W .any base t v := hval0
  have hW' := hW
  obtain ⟨p, q, hA0, hV, rfl, hfz, hnd⟩ := hW
  have hA : DataW.TrodAll enc Try.prog W 0 (fun _ => true) true Try.f9.params.toList args.toList ds p := hA0
  rw [Try.params9] at hA hval hsz
  obtain ⟨v0, vs0, d0, ds0, p0, q0, hargs, rfl, rfl, k0, t0⟩ := trodAll_cons hA
  obtain ⟨v1, vs1, d1, ds1, p1, q1, rfl, rfl, rfl, k1, t1⟩ := trodAll_cons t0
  obtain ⟨v2, vs2, d2, ds2, p2, q2, rfl, rfl, rfl, k2, t2⟩ := trodAll_cons t1
  obtain ⟨v3, vs3, d3, ds3, p3, q3, rfl, rfl, rfl, k3, t3⟩ := trodAll_cons t2
  obtain ⟨v4, vs4, d4, ds4, p4, q4, rfl, rfl, rfl, k4, t4⟩ := trodAll_cons t3
  obtain ⟨v5, vs5, d5, ds5, p5, q5, rfl, rfl, rfl, k5, t5⟩ := trodAll_cons t4
  obtain ⟨rfl, rfl, rfl⟩ := trodAll_nil t5
  obtain rfl : args = #[v0, v1, v2, v3, v4, v5] := by cases args; simp_all
  obtain ⟨rfl, rfl⟩ := trodVars_none hV
  have m0 : ∀ x ∈ p0, x.block < W.heap.size := by obtain ⟨m, hm⟩ := k0; exact DataW.trod_lt m _ _ _ hm
  have z0 := k0
  obtain ⟨vv0, x0, rfl, r0, o0, w0, bu0⟩ := YtppmpfddcohkjaaA.open_type Try.underlying24 (by kernel_rfl) (by kernel_rfl) (by kernel_rfl) Try.underlying22 (B := 24) (by kernel_rfl)
    (YtppmpfddcohkjaaA.reads_list YtppmpfddcohkjaaA.counts Try.underlying22 (by kernel_rfl) (t := .node) (YtppmpfddcohkjaaA.reads_node Try.underlying35 (by kernel_rfl) (by kernel_rfl) (by kernel_rfl) (by kernel_rfl) Try.underlying3 Try.underlying4)) (hval 0 24 v0 rfl rfl) k0 hsz (j := 0) rfl rfl
  have m1 : ∀ x ∈ p1, x.block < W.heap.size := by obtain ⟨m, hm⟩ := k1; exact DataW.trod_lt m _ _ _ hm
  have z1 := k1
  obtain ⟨a1, rfl, rfl, rfl, w1⟩ := open_int Try.underlying3 (hval 1 3 v1 rfl rfl) k1
  have m2 : ∀ x ∈ p2, x.block < W.heap.size := by obtain ⟨m, hm⟩ := k2; exact DataW.trod_lt m _ _ _ hm
  have z2 := k2
  obtain ⟨u2, x2, rfl, r2, y2⟩ := YtppmpfddcohkjaaA.open_arr ⟨⟨_, Try.underlying27, by kernel_rfl⟩, by kernel_rfl, by kernel_rfl, by kernel_rfl, by kernel_rfl, Try.underlying3, Try.underlying9, Try.underlying25, by kernel_rfl⟩ (hval 2 27 v2 rfl rfl) k2 hsz (j := 2) rfl rfl
  have m3 : ∀ x ∈ p3, x.block < W.heap.size := by obtain ⟨m, hm⟩ := k3; exact DataW.trod_lt m _ _ _ hm
  have z3 := k3
  obtain ⟨a3, rfl, rfl, rfl, w3⟩ := open_int Try.underlying3 (hval 3 3 v3 rfl rfl) k3
  have m4 : ∀ x ∈ p4, x.block < W.heap.size := by obtain ⟨m, hm⟩ := k4; exact DataW.trod_lt m _ _ _ hm
  have z4 := k4
  obtain ⟨a4, rfl, rfl, rfl, w4⟩ := open_int Try.underlying3 (hval 4 3 v4 rfl rfl) k4
  have m5 : ∀ x ∈ p5, x.block < W.heap.size := by obtain ⟨m, hm⟩ := k5; exact DataW.trod_lt m _ _ _ hm
  have z5 := k5
  obtain ⟨a5, rfl, rfl, rfl, w5⟩ := open_int Try.underlying3 (hval 5 3 v5 rfl rfl) k5
  clear hA0 hval0 hsz0 hsz
  refine (YtppmpfddcohkjaaA.walk_sliceRows _ x0 a1 _ x2 a3 a4 a5 W r0 o0 w0 w1 r2 y2 w3 w4 w5).mono fun e W' ⟨he, bel⟩ => ?_
  subst he
  exact ⟨_, rfl, _, _, _, [], _, [], hW', trodAll_mk1 (shut_bool Try.underlying4 _), (trodAll_cons_mk (Below.trod laidOut (by kernel_rfl) (of_decide_eq_true (by kernel_rfl)) z0 bel m0) (trodAll_cons_mk (Below.trod laidOut (by kernel_rfl) (of_decide_eq_true (by kernel_rfl)) z1 bel m1) (trodAll_cons_mk (Below.trod laidOut (by kernel_rfl) (of_decide_eq_true (by kernel_rfl)) z2 bel m2) (trodAll_cons_mk (Below.trod laidOut (by kernel_rfl) (of_decide_eq_true (by kernel_rfl)) z3 bel m3) (trodAll_cons_mk (Below.trod laidOut (by kernel_rfl) (of_decide_eq_true (by kernel_rfl)) z4 bel m4) (trodAll_cons_mk (Below.trod laidOut (by kernel_rfl) (of_decide_eq_true (by kernel_rfl)) z5 bel m5) trodAll_mk0)))))), rfl, bel.frame _, fun h => by cases h⟩
theorem over : Rows.sliceRowsRow.holds Try.pinned (OpenSpec.ofChange Rows.sliceRowsSpec) :=
  OpenClaim.holds_of_wide 9 Try.f9 rfl rfl rfl rfl rfl rfl rfl ⟨rfl, rfl, rfl, rfl, rfl⟩ rfl rfl rfl rfl rfl (by kernel_rfl) Try.func9 (by kernel_rfl)
    (of_decide_eq_true (by kernel_rfl)) (by unfold Func.isWrapper; first | (rw [if_pos (by decide +kernel)]; kernel_rfl) | (rw [if_neg (by decide +kernel)]; exact ⟨rfl, rfl⟩))
    (fun os started H enc _ => lifted os started H enc)
end Go.Proofs.Ytppmpfddcohkjaa.sliceRows
namespace Go.Proofs.Ytppmpfddcohkjaa
/-- The row. -/
theorem sliceRows_holds : Rows.SliceRowsSaid := sliceRows.over
#print axioms sliceRows_holds
end Go.Proofs.Ytppmpfddcohkjaa
