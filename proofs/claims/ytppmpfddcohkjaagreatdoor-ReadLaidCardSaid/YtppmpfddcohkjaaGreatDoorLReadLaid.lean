/- ReadLaid: for every input the law quiverlaw9.ReadLaid returns true, and each argument reads afterwards as it read before; no condition. -/
import Derived.Test.YtppmpfddcohkjaaGreatDoorRows
import Derived.Test.YtppmpfddcohkjaaGreatDoorCards
import Derived.Test.YtppmpfddcohkjaaGreatDoorTie
import Derived.Test.YtppmpfddcohkjaaGreatDoorPLaws
import Derived.Test.YtppmpfddcohkjaaGreatDoorArg4
import Derived.WalkKit
import Derived.ProofKit
import Derived.OpenShut
import Derived.ShutString
import Derived.ChangeOld
import Derived.Below
import Derived.Carry
import Derived.SizedLaws
import Derived.KernelRfl
import Derived.Handy
import Derived.Lay
import Derived.SevenTiedAt
import Derived.LaidSub
namespace Go.Proofs.YtppmpfddcohkjaaGreatDoorA
open Go
set_option linter.unusedVariables false
theorem walk_readLaid (v0 : Value) (x0 : List (El.den .node)) (a1 : Int) (v2 : List Value) (x2 : Arr) (W : World) (r0 : RepA W gAll (.L .node x0) v0) (o0 : ∀ x ∈ x0, El.ok .node x) (w0 : x0.length * 24 ≤ 140737488351232) (w1 : (Lit.int .i64 a1).wf = true) (r2 : RepL W gAll (El.arr.cells x2) v2) (y2 : RoomyA x2) (hT : Tabs W) :
    Calls Go.Proofs.Tryz.prog 3 #[.agg #[v0], .int .i64 a1, .agg v2.toArray] W fun e w' => e = .returned (.bool true) ∧ RowKit.Below W.heap.size W w' := by
  have l0 : (x0.length : Int) * 24 ≤ 140737488351232 := by omega
  have h1 := i64_wf w1
  obtain ⟨k, h⟩ := YtppmpfddcohkjaaGreatDoorP.pure_ReadLaid x0 a1 x2 y2
  exact (lv_ok k).law (f := 3) (us := [.agg [.L .node x0], .int .i64 a1, .agg [.int .i64 x2.layout, .int .i64 x2.offset, .int .i64 x2.length, .str x2.valid, .str x2.ends, .str x2.data, .L .arr x2.kids]]) (r := true) h (by kernel_rfl) HEq.rfl (vals := [.agg #[v0], .int .i64 a1, .agg v2.toArray]) (tabs_ok hT)
    (.cons ((RepL.cons r0 .nil).agg) (.cons (.int _ _) (.cons ((RepL.agg r2)) .nil)))
end Go.Proofs.YtppmpfddcohkjaaGreatDoorA
namespace Go.Proofs.YtppmpfddcohkjaaGreatDoor.readLaid
open Go.ChangeShapes Go.WideShapes Go.ChangeAt Go.RowKit
open Go.ChangeMaps (open_string shut_string)
set_option linter.unusedVariables false
theorem own : ownKnob Tryz.prog.godebug = none := by kernel_rfl
theorem laidOut : laidOutB Tryz.prog = true := by kernel_rfl
set_option maxRecDepth 100000 in
theorem lifted (os : Os) (started : os.Started) (H : Type) (enc : TypeId × Value → H) :
    ReturnsInHanded {} Tryz.checked os 3 .any (fun w args => (Rows.readLaidSpec.pre enc Tryz.prog Tryz.f3 Rows.readLaidRow.domain false w args ∧ laidMetH Tryz.prog Rows.readLaidRow.laid w) ∧ sizedMet enc Tryz.prog Tryz.f3 (OpenSpec.ofChange Rows.readLaidSpec) false w args)
      (Rows.readLaidSpec.post enc Tryz.prog Tryz.f3 false true false false) := by
  refine returnsInHanded_of_change_and (C := Tryz.checked) (X := fun w _ => laidMetH Tryz.prog Rows.readLaidRow.laid w) (fun _ _ _ hh h => h.of_heap hh) own started (by kernel_rfl) Tryz.func3
    (ChangeSpec.witness_shaped (enc := enc) (C := Tryz.checked) (os := os) (X := fun w _ => laidMetH Tryz.prog Rows.readLaidRow.laid w) false (World.laidAll Tryz.prog os Rows.readLaidRow.laid) #[.agg #[.slice none 0 0], .int .i64 0, .agg #[.int .i64 0, .int .i64 0, .int .i64 0, .string ByteArray.empty, .string ByteArray.empty, .string ByteArray.empty, .slice none 0 0]] 8 (World.laidAll_os _ _ _)
      (World.shaped_of_ZipB (by kernel_rfl) (by kernel_rfl)) (by kernel_rfl) (by kernel_rfl) (by kernel_rfl)
      (by rw [MakeChecks.laidMetH_plain _ _ _ (by kernel_rfl)]; exact laidMet_laidAll _ (by kernel_rfl) (by kernel_rfl))) ?_
  intro W base args ds gs before hval0 hW hcnd hsz0 hL _
  have hsz : (DataW.weightsEach Tryz.prog (Tryz.f3.params.toList ++ Rows.readLaidSpec.plain.varTypes Tryz.prog) (ds ++ gs)).all (· ≤ reachBytes) = true := hsz0
  rw [MakeChecks.laidMetH_plain _ _ _ (by kernel_rfl)] at hL
  have e0 : Rows.readLaidRow.laid.filter (fun x => x.1 == "internal/strconv.uint64pow10") = [("internal/strconv.uint64pow10", Lib.tabData .u64 Lib.pow10Tab)] := by kernel_rfl
  have l0 := laidMet.filter (fun x => x.1 == "internal/strconv.uint64pow10") hL
  rw [e0] at l0
  have hT : YtppmpfddcohkjaaGreatDoorA.Tabs W := Lib.tabIs_of_head (g := 0) (t := 143) (e := 115) (n := 20) (by kernel_rfl) (by kernel_rfl) (by kernel_rfl) (by kernel_rfl) (by kernel_rfl) (by kernel_rfl) l0
  have hval : ∀ (j : Nat) t v, Tryz.f3.params[j]? = some t → args[j]? = some v → Value.okWide Tryz.prog W .any base t v := hval0
  have hW' := hW
  obtain ⟨p, q, hA0, hV, rfl, hfz, hnd⟩ := hW
  have hA : DataW.TrodAll enc Tryz.prog W 0 (fun _ => true) true Tryz.f3.params.toList args.toList ds p := hA0
  rw [Tryz.params3] at hA hval hsz
  obtain ⟨v0, vs0, d0, ds0, p0, q0, hargs, rfl, rfl, k0, t0⟩ := trodAll_cons hA
  obtain ⟨v1, vs1, d1, ds1, p1, q1, rfl, rfl, rfl, k1, t1⟩ := trodAll_cons t0
  obtain ⟨v2, vs2, d2, ds2, p2, q2, rfl, rfl, rfl, k2, t2⟩ := trodAll_cons t1
  obtain ⟨rfl, rfl, rfl⟩ := trodAll_nil t2
  obtain rfl : args = #[v0, v1, v2] := by cases args; simp_all
  obtain ⟨rfl, rfl⟩ := trodVars_none hV
  have m0 : ∀ x ∈ p0, x.block < W.heap.size := by obtain ⟨m, hm⟩ := k0; exact DataW.trod_lt m _ _ _ hm
  have z0 := k0
  obtain ⟨vv0, x0, rfl, r0, o0, w0, bu0⟩ := YtppmpfddcohkjaaGreatDoorA.open_type Tryz.underlying24 (by kernel_rfl) (by kernel_rfl) (by kernel_rfl) Tryz.underlying22 (B := 24) (by kernel_rfl)
    (YtppmpfddcohkjaaGreatDoorA.reads_list YtppmpfddcohkjaaGreatDoorA.counts Tryz.underlying22 (by kernel_rfl) (t := .node) (YtppmpfddcohkjaaGreatDoorA.reads_node Tryz.underlying54 (by kernel_rfl) (by kernel_rfl) (by kernel_rfl) (by kernel_rfl) Tryz.underlying3 Tryz.underlying4)) (hval 0 24 v0 rfl rfl) k0 hsz (j := 0) rfl rfl
  have m1 : ∀ x ∈ p1, x.block < W.heap.size := by obtain ⟨m, hm⟩ := k1; exact DataW.trod_lt m _ _ _ hm
  have z1 := k1
  obtain ⟨a1, rfl, rfl, rfl, w1⟩ := open_int Tryz.underlying3 (hval 1 3 v1 rfl rfl) k1
  have m2 : ∀ x ∈ p2, x.block < W.heap.size := by obtain ⟨m, hm⟩ := k2; exact DataW.trod_lt m _ _ _ hm
  have z2 := k2
  obtain ⟨u2, x2, rfl, r2, y2⟩ := YtppmpfddcohkjaaGreatDoorA.open_arr ⟨⟨_, Tryz.underlying27, by kernel_rfl⟩, by kernel_rfl, by kernel_rfl, by kernel_rfl, by kernel_rfl, Tryz.underlying3, Tryz.underlying9, Tryz.underlying25, by kernel_rfl⟩ (hval 2 27 v2 rfl rfl) k2 hsz (j := 2) rfl rfl
  clear hA0 hval0 hsz0 hsz
  refine (YtppmpfddcohkjaaGreatDoorA.walk_readLaid _ x0 a1 _ x2 W r0 o0 w0 w1 r2 y2 hT).mono fun e W' ⟨he, bel⟩ => ?_
  subst he
  exact ⟨_, rfl, _, _, _, [], _, [], hW', trodAll_mk1 (shut_bool Tryz.underlying4 _), (trodAll_cons_mk (Below.trod laidOut (by kernel_rfl) (of_decide_eq_true (by kernel_rfl)) z0 bel m0) (trodAll_cons_mk (Below.trod laidOut (by kernel_rfl) (of_decide_eq_true (by kernel_rfl)) z1 bel m1) (trodAll_cons_mk (Below.trod laidOut (by kernel_rfl) (of_decide_eq_true (by kernel_rfl)) z2 bel m2) trodAll_mk0))), rfl, bel.frame _, fun h => by cases h⟩
theorem over : Rows.readLaidRow.holds Tryz.pinned (OpenSpec.ofChange Rows.readLaidSpec) :=
  OpenClaim.holds_of_wide 3 Tryz.f3 rfl rfl rfl rfl rfl rfl rfl ⟨rfl, rfl, rfl, rfl, rfl⟩ rfl rfl rfl rfl rfl (by kernel_rfl) Tryz.func3 (by kernel_rfl)
    (of_decide_eq_true (by kernel_rfl)) (by unfold Func.isWrapper; first | (rw [if_pos (by decide +kernel)]; kernel_rfl) | (rw [if_neg (by decide +kernel)]; exact ⟨rfl, rfl⟩))
    (fun os started H enc _ => lifted os started H enc)
theorem card : Rows.ReadLaidCardSaid :=
  Claim7.holds_tied_plain_at .later [] [.data, .data, .data] true (true, "29528be8094e7e913c24e3f0085b4d8a419b3f4f16073003bae71a02870e6d20") false over (fun _ h => by cases h) (by kernel_rfl) (fun _ h => by cases h) readLaid_row_tie rfl ⟨rfl, rfl⟩ (by kernel_rfl) rfl
    (fun f fn hf hfn => by
      obtain rfl : f = 3 := Option.some.inj ((show Tryz.prog.funcNamed "quiver/quiverlaw9.ReadLaid" = some 3 by kernel_rfl).symm.trans hf) |>.symm
      obtain rfl : fn = Tryz.f3 := (Option.some.inj (Tryz.func3.symm.trans hfn)).symm
      exact ⟨by kernel_rfl, fun j t ht => by
        rw [Tryz.params3] at ht
        have hm : t ∈ [24, 3, 27] := by simpa using Array.mem_of_getElem? ht
        have hall : ([24, 3, 27].all fun u => !Tryz.prog.wantsStandIn u) = true := by kernel_rfl
        exact (show Tryz.prog.wantsStandIn t = false by simpa using List.all_eq_true.1 hall t hm)⟩)
    (by kernel_rfl)
end Go.Proofs.YtppmpfddcohkjaaGreatDoor.readLaid
namespace Go.Proofs.YtppmpfddcohkjaaGreatDoor
/-- The row. -/
theorem readLaid_holds : Rows.ReadLaidCardSaid := readLaid.card
#print axioms readLaid_holds
end Go.Proofs.YtppmpfddcohkjaaGreatDoor
