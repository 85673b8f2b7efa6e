/- ReadUnder: for every input the law quiverlaw9.ReadUnder returns true, and each argument reads afterwards as it read before; no condition. -/
import Derived.Test.YtppmpfddcohkjaaDoorRows
import Derived.Test.YtppmpfddcohkjaaDoorCards
import Derived.Test.YtppmpfddcohkjaaDoorTie
import Derived.Test.YtppmpfddcohkjaaDoorPUnder
import Derived.Test.YtppmpfddcohkjaaDoorArg3
import Derived.WalkKit
import Derived.ProofKit
import Derived.OpenShut
import Derived.ShutString
import Derived.ChangeOld
import Derived.Below
import Derived.Carry
import Derived.SizedLaws
import Derived.KernelRfl
import Derived.Handy
import Derived.Lay
import Derived.SevenTiedAt
import Derived.LaidSub
namespace Go.Proofs.YtppmpfddcohkjaaDoorA
open Go
theorem walk_readUnder (v0 : Value) (x0 : List (El.den (.int .i64))) (a1 : Int) (a2 : Int) (W : World) (r0 : RepA W gAll (.L (.int .i64) x0) v0) (o0 : ∀ x ∈ x0, El.ok (.int .i64) x) (w0 : x0.length * 8 ≤ 140737488351232) (w1 : (Lit.int .i64 a1).wf = true) (w2 : (Lit.int .i64 a2).wf = true) (hT : Tabs W) :
    Calls Go.Proofs.Tryd.prog 6 #[v0, .int .i64 a1, .int .i64 a2] W fun e w' => e = .returned (.bool true) ∧ RowKit.Below W.heap.size W w' := by
  have l0 : (x0.length : Int) * 8 ≤ 140737488351232 := by omega
  have h1 := i64_wf w1
  have h2 := i64_wf w2
  obtain ⟨k, h⟩ := YtppmpfddcohkjaaDoorP.pure_ReadUnder x0 a1 a2 (fun x hx => i64_wf (o0 x hx))
  exact (lv_ok k).law (f := 6) (us := [.L (.int .i64) x0, .int .i64 a1, .int .i64 a2]) (r := true) h (by kernel_rfl) HEq.rfl (vals := [v0, .int .i64 a1, .int .i64 a2]) (tabs_ok hT)
    (.cons (r0) (.cons (.int _ _) (.cons (.int _ _) .nil)))
end Go.Proofs.YtppmpfddcohkjaaDoorA
namespace Go.Proofs.YtppmpfddcohkjaaDoor.readUnder
open Go.ChangeShapes Go.WideShapes Go.ChangeAt Go.RowKit
open Go.ChangeMaps (open_string shut_string)
set_option linter.unusedVariables false
theorem own : ownKnob Tryd.prog.godebug = none := by kernel_rfl
theorem laidOut : laidOutB Tryd.prog = true := by kernel_rfl
set_option maxRecDepth 100000 in
theorem lifted (os : Os) (started : os.Started) (H : Type) (enc : TypeId × Value → H) :
    ReturnsInHanded {} Tryd.checked os 6 .any (fun w args => (Rows.readUnderSpec.pre enc Tryd.prog Tryd.f6 Rows.readUnderRow.domain false w args ∧ laidMetH Tryd.prog Rows.readUnderRow.laid w) ∧ sizedMet enc Tryd.prog Tryd.f6 (OpenSpec.ofChange Rows.readUnderSpec) false w args)
      (Rows.readUnderSpec.post enc Tryd.prog Tryd.f6 false true false false) := by
  refine returnsInHanded_of_change_and (C := Tryd.checked) (X := fun w _ => laidMetH Tryd.prog Rows.readUnderRow.laid w) (fun _ _ _ hh h => h.of_heap hh) own started (by kernel_rfl) Tryd.func6
    (ChangeSpec.witness_shaped (enc := enc) (C := Tryd.checked) (os := os) (X := fun w _ => laidMetH Tryd.prog Rows.readUnderRow.laid w) false (World.laidAll Tryd.prog os Rows.readUnderRow.laid) #[.slice none 0 0, .int .i64 0, .int .i64 0] 8 (World.laidAll_os _ _ _)
      (World.shaped_of_ZipB (by kernel_rfl) (by kernel_rfl)) (by kernel_rfl) (by kernel_rfl) (by kernel_rfl)
      (by rw [MakeChecks.laidMetH_plain _ _ _ (by kernel_rfl)]; exact laidMet_laidAll _ (by kernel_rfl) (by kernel_rfl))) ?_
  intro W base args ds gs before hval0 hW hcnd hsz0 hL _
  have hsz : (DataW.weightsEach Tryd.prog (Tryd.f6.params.toList ++ Rows.readUnderSpec.plain.varTypes Tryd.prog) (ds ++ gs)).all (· ≤ reachBytes) = true := hsz0
  rw [MakeChecks.laidMetH_plain _ _ _ (by kernel_rfl)] at hL
  have e0 : Rows.readUnderRow.laid.filter (fun x => x.1 == "internal/strconv.uint64pow10") = [("internal/strconv.uint64pow10", Lib.tabData .u64 Lib.pow10Tab)] := by kernel_rfl
  have l0 := laidMet.filter (fun x => x.1 == "internal/strconv.uint64pow10") hL
  rw [e0] at l0
  have hT : YtppmpfddcohkjaaDoorA.Tabs W := Lib.tabIs_of_head (g := 0) (t := 122) (e := 94) (n := 20) (by kernel_rfl) (by kernel_rfl) (by kernel_rfl) (by kernel_rfl) (by kernel_rfl) (by kernel_rfl) l0
  have hval : ∀ (j : Nat) t v, Tryd.f6.params[j]? = some t → args[j]? = some v → Value.okWide Tryd.prog W .any base t v := hval0
  have hW' := hW
  obtain ⟨p, q, hA0, hV, rfl, hfz, hnd⟩ := hW
  have hA : DataW.TrodAll enc Tryd.prog W 0 (fun _ => true) true Tryd.f6.params.toList args.toList ds p := hA0
  rw [Tryd.params6] at hA hval hsz
  obtain ⟨v0, vs0, d0, ds0, p0, q0, hargs, rfl, rfl, k0, t0⟩ := trodAll_cons hA
  obtain ⟨v1, vs1, d1, ds1, p1, q1, rfl, rfl, rfl, k1, t1⟩ := trodAll_cons t0
  obtain ⟨v2, vs2, d2, ds2, p2, q2, rfl, rfl, rfl, k2, t2⟩ := trodAll_cons t1
  obtain ⟨rfl, rfl, rfl⟩ := trodAll_nil t2
  obtain rfl : args = #[v0, v1, v2] := by cases args; simp_all
  obtain ⟨rfl, rfl⟩ := trodVars_none hV
  have m0 : ∀ x ∈ p0, x.block < W.heap.size := by obtain ⟨m, hm⟩ := k0; exact DataW.trod_lt m _ _ _ hm
  have z0 := k0
  obtain ⟨b0, len0, cap0, rfl⟩ := okWide_slice Tryd.underlying46 (hval 0 46 v0 rfl rfl)
  obtain ⟨x0, r0, e0, o0, bu0⟩ := YtppmpfddcohkjaaDoorA.list_arg (YtppmpfddcohkjaaDoorA.reads_list YtppmpfddcohkjaaDoorA.counts Tryd.underlying46 (by kernel_rfl) (YtppmpfddcohkjaaDoorA.reads_int YtppmpfddcohkjaaDoorA.counts Tryd.underlying3)) k0
  have w0 : x0.length * 8 ≤ 140737488351232 := by rw [e0]; exact YtppmpfddcohkjaaDoorA.sized_list hsz (j := 0) rfl rfl Tryd.underlying46 (by kernel_rfl) k0
  have m1 : ∀ x ∈ p1, x.block < W.heap.size := by obtain ⟨m, hm⟩ := k1; exact DataW.trod_lt m _ _ _ hm
  have z1 := k1
  obtain ⟨a1, rfl, rfl, rfl, w1⟩ := open_int Tryd.underlying3 (hval 1 3 v1 rfl rfl) k1
  have m2 : ∀ x ∈ p2, x.block < W.heap.size := by obtain ⟨m, hm⟩ := k2; exact DataW.trod_lt m _ _ _ hm
  have z2 := k2
  obtain ⟨a2, rfl, rfl, rfl, w2⟩ := open_int Tryd.underlying3 (hval 2 3 v2 rfl rfl) k2
  clear hA0 hval0 hsz0 hsz
  refine (YtppmpfddcohkjaaDoorA.walk_readUnder _ x0 a1 a2 W r0 o0 w0 w1 w2 hT).mono fun e W' ⟨he, bel⟩ => ?_
  subst he
  exact ⟨_, rfl, _, _, _, [], _, [], hW', trodAll_mk1 (shut_bool Tryd.underlying4 _), (trodAll_cons_mk (Below.trod laidOut (by kernel_rfl) (of_decide_eq_true (by kernel_rfl)) z0 bel m0) (trodAll_cons_mk (Below.trod laidOut (by kernel_rfl) (of_decide_eq_true (by kernel_rfl)) z1 bel m1) (trodAll_cons_mk (Below.trod laidOut (by kernel_rfl) (of_decide_eq_true (by kernel_rfl)) z2 bel m2) trodAll_mk0))), rfl, bel.frame _, fun h => by cases h⟩
theorem over : Rows.readUnderRow.holds Tryd.pinned (OpenSpec.ofChange Rows.readUnderSpec) :=
  OpenClaim.holds_of_wide 6 Tryd.f6 rfl rfl rfl rfl rfl rfl rfl ⟨rfl, rfl, rfl, rfl, rfl⟩ rfl rfl rfl rfl rfl (by kernel_rfl) Tryd.func6 (by kernel_rfl)
    (of_decide_eq_true (by kernel_rfl)) (by unfold Func.isWrapper; first | (rw [if_pos (by decide +kernel)]; kernel_rfl) | (rw [if_neg (by decide +kernel)]; exact ⟨rfl, rfl⟩))
    (fun os started H enc _ => lifted os started H enc)
theorem card : Rows.ReadUnderCardSaid :=
  Claim7.holds_tied_plain_at .later [] [.data, .data, .data] true (true, "cfd88b0ec4670f9fae9793d57cc7b772c52b803c8c5ba533c7bc960bb250d4ec") false over (fun _ h => by cases h) (by kernel_rfl) (fun _ h => by cases h) readUnder_row_tie rfl ⟨rfl, rfl⟩ (by kernel_rfl) rfl
    (fun f fn hf hfn => by
      obtain rfl : f = 6 := Option.some.inj ((show Tryd.prog.funcNamed "quiver/quiverlaw9.ReadUnder" = some 6 by kernel_rfl).symm.trans hf) |>.symm
      obtain rfl : fn = Tryd.f6 := (Option.some.inj (Tryd.func6.symm.trans hfn)).symm
      exact ⟨by kernel_rfl, fun j t ht => by
        rw [Tryd.params6] at ht
        have hm : t ∈ [46, 3, 3] := by simpa using Array.mem_of_getElem? ht
        have hall : ([46, 3, 3].all fun u => !Tryd.prog.wantsStandIn u) = true := by kernel_rfl
        exact (show Tryd.prog.wantsStandIn t = false by simpa using List.all_eq_true.1 hall t hm)⟩)
    (by kernel_rfl)
end Go.Proofs.YtppmpfddcohkjaaDoor.readUnder
namespace Go.Proofs.YtppmpfddcohkjaaDoor
/-- The row. -/
theorem readUnder_holds : Rows.ReadUnderCardSaid := readUnder.card
#print axioms readUnder_holds
end Go.Proofs.YtppmpfddcohkjaaDoor
