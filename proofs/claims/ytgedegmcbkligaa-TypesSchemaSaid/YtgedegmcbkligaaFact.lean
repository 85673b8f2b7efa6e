/- The program is what the machine is told of it, so that what the machine answers of a call is what the program answers; no condition. -/
import Derived.Test.YtgedegmcbkligaaChk
import Derived.Test.YtgedegmcbkligaaEnv
namespace Go.Proofs.YtgedegmcbkligaaA
open Go
set_option linter.unusedVariables false

def elid (t : El) : Nat :=
  match t with
  | .int .i64 => 3
  | .int .u8 => 5
  | .str => 9
  | .node => 60
  | _ => 0
theorem tys_ok : tysOk Go.Proofs.Try.prog elid tyL = true := by kernel_rfl
theorem fn3_ok : FnOK Go.Proofs.Try.prog 3 fi3 := ⟨Go.Proofs.Try.f3, Go.Proofs.Try.func3, rfl, rfl, rfl, by kernel_rfl⟩
theorem fn4_ok : FnOK Go.Proofs.Try.prog 4 fi4 := ⟨Go.Proofs.Try.f4, Go.Proofs.Try.func4, rfl, rfl, rfl, by kernel_rfl⟩
theorem fn5_ok : FnOK Go.Proofs.Try.prog 5 fi5 := ⟨Go.Proofs.Try.f5, Go.Proofs.Try.func5, rfl, rfl, rfl, by kernel_rfl⟩
theorem fn6_ok : FnOK Go.Proofs.Try.prog 6 fi6 := ⟨Go.Proofs.Try.f6, Go.Proofs.Try.func6, rfl, rfl, rfl, by kernel_rfl⟩
theorem fn7_ok : FnOK Go.Proofs.Try.prog 7 fi7 := ⟨Go.Proofs.Try.f7, Go.Proofs.Try.func7, rfl, rfl, rfl, by kernel_rfl⟩
theorem fn8_ok : FnOK Go.Proofs.Try.prog 8 fi8 := ⟨Go.Proofs.Try.f8, Go.Proofs.Try.func8, rfl, rfl, rfl, by kernel_rfl⟩
theorem fn9_ok : FnOK Go.Proofs.Try.prog 9 fi9 := ⟨Go.Proofs.Try.f9, Go.Proofs.Try.func9, rfl, rfl, rfl, by kernel_rfl⟩
theorem fn10_ok : FnOK Go.Proofs.Try.prog 10 fi10 := ⟨Go.Proofs.Try.f10, Go.Proofs.Try.func10, rfl, rfl, rfl, by kernel_rfl⟩
theorem fn11_ok : FnOK Go.Proofs.Try.prog 11 fi11 := ⟨Go.Proofs.Try.f11, Go.Proofs.Try.func11, rfl, rfl, rfl, by kernel_rfl⟩
theorem fn12_ok : FnOK Go.Proofs.Try.prog 12 fi12 := ⟨Go.Proofs.Try.f12, Go.Proofs.Try.func12, rfl, rfl, rfl, by kernel_rfl⟩
theorem fn13_ok : FnOK Go.Proofs.Try.prog 13 fi13 := ⟨Go.Proofs.Try.f13, Go.Proofs.Try.func13, rfl, rfl, rfl, by kernel_rfl⟩
theorem fn14_ok : FnOK Go.Proofs.Try.prog 14 fi14 := ⟨Go.Proofs.Try.f14, Go.Proofs.Try.func14, rfl, rfl, rfl, by kernel_rfl⟩
theorem fn15_ok : FnOK Go.Proofs.Try.prog 15 fi15 := ⟨Go.Proofs.Try.f15, Go.Proofs.Try.func15, rfl, rfl, rfl, by kernel_rfl⟩
theorem fn16_ok : FnOK Go.Proofs.Try.prog 16 fi16 := ⟨Go.Proofs.Try.f16, Go.Proofs.Try.func16, rfl, rfl, rfl, by kernel_rfl⟩
theorem fn17_ok : FnOK Go.Proofs.Try.prog 17 fi17 := ⟨Go.Proofs.Try.f17, Go.Proofs.Try.func17, rfl, rfl, rfl, by kernel_rfl⟩
theorem fn18_ok : FnOK Go.Proofs.Try.prog 18 fi18 := ⟨Go.Proofs.Try.f18, Go.Proofs.Try.func18, rfl, rfl, rfl, by kernel_rfl⟩
theorem fn19_ok : FnOK Go.Proofs.Try.prog 19 fi19 := ⟨Go.Proofs.Try.f19, Go.Proofs.Try.func19, rfl, rfl, rfl, by kernel_rfl⟩
theorem fn20_ok : FnOK Go.Proofs.Try.prog 20 fi20 := ⟨Go.Proofs.Try.f20, Go.Proofs.Try.func20, rfl, rfl, rfl, by kernel_rfl⟩
theorem fn21_ok : FnOK Go.Proofs.Try.prog 21 fi21 := ⟨Go.Proofs.Try.f21, Go.Proofs.Try.func21, rfl, rfl, rfl, by kernel_rfl⟩
theorem fn22_ok : FnOK Go.Proofs.Try.prog 22 fi22 := ⟨Go.Proofs.Try.f22, Go.Proofs.Try.func22, rfl, rfl, rfl, by kernel_rfl⟩
theorem fn23_ok : FnOK Go.Proofs.Try.prog 23 fi23 := ⟨Go.Proofs.Try.f23, Go.Proofs.Try.func23, rfl, rfl, rfl, by kernel_rfl⟩
theorem fn24_ok : FnOK Go.Proofs.Try.prog 24 fi24 := ⟨Go.Proofs.Try.f24, Go.Proofs.Try.func24, rfl, rfl, rfl, by kernel_rfl⟩
theorem fn25_ok : FnOK Go.Proofs.Try.prog 25 fi25 := ⟨Go.Proofs.Try.f25, Go.Proofs.Try.func25, rfl, rfl, rfl, by kernel_rfl⟩
theorem fn26_ok : FnOK Go.Proofs.Try.prog 26 fi26 := ⟨Go.Proofs.Try.f26, Go.Proofs.Try.func26, rfl, rfl, rfl, by kernel_rfl⟩
theorem fn27_ok : FnOK Go.Proofs.Try.prog 27 fi27 := ⟨Go.Proofs.Try.f27, Go.Proofs.Try.func27, rfl, rfl, rfl, by kernel_rfl⟩
theorem fn28_ok : FnOK Go.Proofs.Try.prog 28 fi28 := ⟨Go.Proofs.Try.f28, Go.Proofs.Try.func28, rfl, rfl, rfl, by kernel_rfl⟩
theorem fn29_ok : FnOK Go.Proofs.Try.prog 29 fi29 := ⟨Go.Proofs.Try.f29, Go.Proofs.Try.func29, rfl, rfl, rfl, by kernel_rfl⟩
theorem fn30_ok : FnOK Go.Proofs.Try.prog 30 fi30 := ⟨Go.Proofs.Try.f30, Go.Proofs.Try.func30, rfl, rfl, rfl, by kernel_rfl⟩
theorem fn31_ok : FnOK Go.Proofs.Try.prog 31 fi31 := ⟨Go.Proofs.Try.f31, Go.Proofs.Try.func31, rfl, rfl, rfl, by kernel_rfl⟩
theorem fn32_ok : FnOK Go.Proofs.Try.prog 32 fi32 := ⟨Go.Proofs.Try.f32, Go.Proofs.Try.func32, rfl, rfl, rfl, by kernel_rfl⟩
theorem fn33_ok : FnOK Go.Proofs.Try.prog 33 fi33 := ⟨Go.Proofs.Try.f33, Go.Proofs.Try.func33, rfl, rfl, rfl, by kernel_rfl⟩
theorem fn34_ok : FnOK Go.Proofs.Try.prog 34 fi34 := ⟨Go.Proofs.Try.f34, Go.Proofs.Try.func34, rfl, rfl, rfl, by kernel_rfl⟩
theorem fn35_ok : FnOK Go.Proofs.Try.prog 35 fi35 := ⟨Go.Proofs.Try.f35, Go.Proofs.Try.func35, rfl, rfl, rfl, by kernel_rfl⟩
theorem fn36_ok : FnOK Go.Proofs.Try.prog 36 fi36 := ⟨Go.Proofs.Try.f36, Go.Proofs.Try.func36, rfl, rfl, rfl, by kernel_rfl⟩
theorem fn37_ok : FnOK Go.Proofs.Try.prog 37 fi37 := ⟨Go.Proofs.Try.f37, Go.Proofs.Try.func37, rfl, rfl, rfl, by kernel_rfl⟩
theorem fn38_ok : FnOK Go.Proofs.Try.prog 38 fi38 := ⟨Go.Proofs.Try.f38, Go.Proofs.Try.func38, rfl, rfl, rfl, by kernel_rfl⟩
theorem fn39_ok : FnOK Go.Proofs.Try.prog 39 fi39 := ⟨Go.Proofs.Try.f39, Go.Proofs.Try.func39, rfl, rfl, rfl, by kernel_rfl⟩
theorem fn40_ok : FnOK Go.Proofs.Try.prog 40 fi40 := ⟨Go.Proofs.Try.f40, Go.Proofs.Try.func40, rfl, rfl, rfl, by kernel_rfl⟩
theorem fn41_ok : FnOK Go.Proofs.Try.prog 41 fi41 := ⟨Go.Proofs.Try.f41, Go.Proofs.Try.func41, rfl, rfl, rfl, by kernel_rfl⟩
theorem fn42_ok : FnOK Go.Proofs.Try.prog 42 fi42 := ⟨Go.Proofs.Try.f42, Go.Proofs.Try.func42, rfl, rfl, rfl, by kernel_rfl⟩
theorem fn43_ok : FnOK Go.Proofs.Try.prog 43 fi43 := ⟨Go.Proofs.Try.f43, Go.Proofs.Try.func43, rfl, rfl, rfl, by kernel_rfl⟩
theorem fn44_ok : FnOK Go.Proofs.Try.prog 44 fi44 := ⟨Go.Proofs.Try.f44, Go.Proofs.Try.func44, rfl, rfl, rfl, by kernel_rfl⟩
theorem fn45_ok : FnOK Go.Proofs.Try.prog 45 fi45 := ⟨Go.Proofs.Try.f45, Go.Proofs.Try.func45, rfl, rfl, rfl, by kernel_rfl⟩
theorem fn46_ok : FnOK Go.Proofs.Try.prog 46 fi46 := ⟨Go.Proofs.Try.f46, Go.Proofs.Try.func46, rfl, rfl, rfl, by kernel_rfl⟩
theorem fn47_ok : FnOK Go.Proofs.Try.prog 47 fi47 := ⟨Go.Proofs.Try.f47, Go.Proofs.Try.func47, rfl, rfl, rfl, by kernel_rfl⟩
theorem fn48_ok : FnOK Go.Proofs.Try.prog 48 fi48 := ⟨Go.Proofs.Try.f48, Go.Proofs.Try.func48, rfl, rfl, rfl, by kernel_rfl⟩
theorem fn49_ok : FnOK Go.Proofs.Try.prog 49 fi49 := ⟨Go.Proofs.Try.f49, Go.Proofs.Try.func49, rfl, rfl, rfl, by kernel_rfl⟩
theorem fn50_ok : FnOK Go.Proofs.Try.prog 50 fi50 := ⟨Go.Proofs.Try.f50, Go.Proofs.Try.func50, rfl, rfl, rfl, by kernel_rfl⟩
theorem fn51_ok : FnOK Go.Proofs.Try.prog 51 fi51 := ⟨Go.Proofs.Try.f51, Go.Proofs.Try.func51, rfl, rfl, rfl, by kernel_rfl⟩
theorem fn52_ok : FnOK Go.Proofs.Try.prog 52 fi52 := ⟨Go.Proofs.Try.f52, Go.Proofs.Try.func52, rfl, rfl, rfl, by kernel_rfl⟩
theorem fn53_ok : FnOK Go.Proofs.Try.prog 53 fi53 := ⟨Go.Proofs.Try.f53, Go.Proofs.Try.func53, rfl, rfl, rfl, by kernel_rfl⟩
theorem fn54_ok : FnOK Go.Proofs.Try.prog 54 fi54 := ⟨Go.Proofs.Try.f54, Go.Proofs.Try.func54, rfl, rfl, rfl, by kernel_rfl⟩
theorem fn55_ok : FnOK Go.Proofs.Try.prog 55 fi55 := ⟨Go.Proofs.Try.f55, Go.Proofs.Try.func55, rfl, rfl, rfl, by kernel_rfl⟩
theorem fn56_ok : FnOK Go.Proofs.Try.prog 56 fi56 := ⟨Go.Proofs.Try.f56, Go.Proofs.Try.func56, rfl, rfl, rfl, by kernel_rfl⟩
theorem fn57_ok : FnOK Go.Proofs.Try.prog 57 fi57 := ⟨Go.Proofs.Try.f57, Go.Proofs.Try.func57, rfl, rfl, rfl, by kernel_rfl⟩
theorem fn58_ok : FnOK Go.Proofs.Try.prog 58 fi58 := ⟨Go.Proofs.Try.f58, Go.Proofs.Try.func58, rfl, rfl, rfl, by kernel_rfl⟩
theorem fn59_ok : FnOK Go.Proofs.Try.prog 59 fi59 := ⟨Go.Proofs.Try.f59, Go.Proofs.Try.func59, rfl, rfl, rfl, by kernel_rfl⟩
theorem fn60_ok : FnOK Go.Proofs.Try.prog 60 fi60 := ⟨Go.Proofs.Try.f60, Go.Proofs.Try.func60, rfl, rfl, rfl, by kernel_rfl⟩
theorem fn61_ok : FnOK Go.Proofs.Try.prog 61 fi61 := ⟨Go.Proofs.Try.f61, Go.Proofs.Try.func61, rfl, rfl, rfl, by kernel_rfl⟩
theorem fn62_ok : FnOK Go.Proofs.Try.prog 62 fi62 := ⟨Go.Proofs.Try.f62, Go.Proofs.Try.func62, rfl, rfl, rfl, by kernel_rfl⟩
theorem fn63_ok : FnOK Go.Proofs.Try.prog 63 fi63 := ⟨Go.Proofs.Try.f63, Go.Proofs.Try.func63, rfl, rfl, rfl, by kernel_rfl⟩
theorem fn64_ok : FnOK Go.Proofs.Try.prog 64 fi64 := ⟨Go.Proofs.Try.f64, Go.Proofs.Try.func64, rfl, rfl, rfl, by kernel_rfl⟩
theorem fns_ok : AllP (FnOK Go.Proofs.Try.prog) fnL := ⟨fn3_ok, fn4_ok, fn5_ok, fn6_ok, fn7_ok, fn8_ok, fn9_ok, fn10_ok, fn11_ok, fn12_ok, fn13_ok, fn14_ok, fn15_ok, fn16_ok, fn17_ok, fn18_ok, fn19_ok, fn20_ok, fn21_ok, fn22_ok, fn23_ok, fn24_ok, fn25_ok, fn26_ok, fn27_ok, fn28_ok, fn29_ok, fn30_ok, fn31_ok, fn32_ok, fn33_ok, fn34_ok, fn35_ok, fn36_ok, fn37_ok, fn38_ok, fn39_ok, fn40_ok, fn41_ok, fn42_ok, fn43_ok, fn44_ok, fn45_ok, fn46_ok, fn47_ok, fn48_ok, fn49_ok, fn50_ok, fn51_ok, fn52_ok, fn53_ok, fn54_ok, fn55_ok, fn56_ok, fn57_ok, fn58_ok, fn59_ok, fn60_ok, fn61_ok, fn62_ok, fn63_ok, fn64_ok, trivial⟩
theorem mixed : (Go.Proofs.Try.prog).follows .mixedOrders = true := by kernel_rfl
/-- What the machine answers, the program answers. -/
theorem lv_ok (k : Nat) : LvOK Go.Proofs.Try.prog elid sigOf (lvl (E idb) k) :=
  levels (E := E idb) (fun T i h => (tysOk_spec tys_ok).look T i h) (fun _ _ => rfl) (fun f fi h => fns_ok.look f fi h) (fun _ _ _ => rfl) mixed k

end Go.Proofs.YtgedegmcbkligaaA
