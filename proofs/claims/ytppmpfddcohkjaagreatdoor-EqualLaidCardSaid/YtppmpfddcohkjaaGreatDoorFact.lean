/- The program is what the machine is told of it, so that what the machine answers of a call is what the program answers; no condition. -/
import Derived.Test.YtppmpfddcohkjaaGreatDoorExt2
import Derived.Test.YtppmpfddcohkjaaGreatDoorShelf
import Derived.Test.YtppmpfddcohkjaaGreatDoorEnv
namespace Go.Proofs.YtppmpfddcohkjaaGreatDoorA
open Go
set_option linter.unusedVariables false

def elidF (t : El) : Nat :=
  match t with
  | .int .i64 => 3
  | .bool => 4
  | .int .u8 => 5
  | .str => 9
  | .arr => 27
  | .list .str => 29
  | .node => 54
  | _ => 0
/-- The tables that the library reads. -/
def Tabs (w : World) : Prop := Lib.TabIs Go.Proofs.Tryz.prog w "internal/strconv.uint64pow10" .u64 Lib.pow10Tab
theorem glob0 : (Go.Proofs.Tryz.prog).globalNamed "internal/strconv.uint64pow10" = some 0 := by kernel_rfl
def elid : Elid := ⟨elidF, [0], Tabs, fun w w' q h => tab_stable glob0 (q 0 (by decide)) h⟩
theorem tabs_ok {W : World} (h : Tabs W) : TabOK elid W ⟨fun _ _ => .imm, fun _ _ => .slice none 0 0, fun _ => (0, 0)⟩ := by
  refine ⟨h, fun b hb => ⟨?_, fun _ => rfl⟩⟩
  have hb' : b ∈ [0] := hb
  simp only [List.mem_cons, List.not_mem_nil, or_false] at hb'
  rw [hb']
  exact tab_lt glob0 h
theorem tys_ok : tysOk Go.Proofs.Tryz.prog elid tyL = true := by kernel_rfl
theorem fn3_ok : FnOK Go.Proofs.Tryz.prog 3 fi3 := ⟨Go.Proofs.Tryz.f3, Go.Proofs.Tryz.func3, rfl, rfl, rfl, by kernel_rfl⟩
theorem fn4_ok : FnOK Go.Proofs.Tryz.prog 4 fi4 := ⟨Go.Proofs.Tryz.f4, Go.Proofs.Tryz.func4, rfl, rfl, rfl, by kernel_rfl⟩
theorem fn5_ok : FnOK Go.Proofs.Tryz.prog 5 fi5 := ⟨Go.Proofs.Tryz.f5, Go.Proofs.Tryz.func5, rfl, rfl, rfl, by kernel_rfl⟩
theorem fn6_ok : FnOK Go.Proofs.Tryz.prog 6 fi6 := ⟨Go.Proofs.Tryz.f6, Go.Proofs.Tryz.func6, rfl, rfl, rfl, by kernel_rfl⟩
theorem fn8_ok : FnOK Go.Proofs.Tryz.prog 8 fi8 := ⟨Go.Proofs.Tryz.f8, Go.Proofs.Tryz.func8, rfl, rfl, rfl, by kernel_rfl⟩
theorem fn9_ok : FnOK Go.Proofs.Tryz.prog 9 fi9 := ⟨Go.Proofs.Tryz.f9, Go.Proofs.Tryz.func9, rfl, rfl, rfl, by kernel_rfl⟩
theorem fn10_ok : FnOK Go.Proofs.Tryz.prog 10 fi10 := ⟨Go.Proofs.Tryz.f10, Go.Proofs.Tryz.func10, rfl, rfl, rfl, by kernel_rfl⟩
theorem fn11_ok : FnOK Go.Proofs.Tryz.prog 11 fi11 := ⟨Go.Proofs.Tryz.f11, Go.Proofs.Tryz.func11, rfl, rfl, rfl, by kernel_rfl⟩
theorem fn12_ok : FnOK Go.Proofs.Tryz.prog 12 fi12 := ⟨Go.Proofs.Tryz.f12, Go.Proofs.Tryz.func12, rfl, rfl, rfl, by kernel_rfl⟩
theorem fn13_ok : FnOK Go.Proofs.Tryz.prog 13 fi13 := ⟨Go.Proofs.Tryz.f13, Go.Proofs.Tryz.func13, rfl, rfl, rfl, by kernel_rfl⟩
theorem fn14_ok : FnOK Go.Proofs.Tryz.prog 14 fi14 := ⟨Go.Proofs.Tryz.f14, Go.Proofs.Tryz.func14, rfl, rfl, rfl, by kernel_rfl⟩
theorem fn15_ok : FnOK Go.Proofs.Tryz.prog 15 fi15 := ⟨Go.Proofs.Tryz.f15, Go.Proofs.Tryz.func15, rfl, rfl, rfl, by kernel_rfl⟩
theorem fn16_ok : FnOK Go.Proofs.Tryz.prog 16 fi16 := ⟨Go.Proofs.Tryz.f16, Go.Proofs.Tryz.func16, rfl, rfl, rfl, by kernel_rfl⟩
theorem fn17_ok : FnOK Go.Proofs.Tryz.prog 17 fi17 := ⟨Go.Proofs.Tryz.f17, Go.Proofs.Tryz.func17, rfl, rfl, rfl, by kernel_rfl⟩
theorem fn18_ok : FnOK Go.Proofs.Tryz.prog 18 fi18 := ⟨Go.Proofs.Tryz.f18, Go.Proofs.Tryz.func18, rfl, rfl, rfl, by kernel_rfl⟩
theorem fn19_ok : FnOK Go.Proofs.Tryz.prog 19 fi19 := ⟨Go.Proofs.Tryz.f19, Go.Proofs.Tryz.func19, rfl, rfl, rfl, by kernel_rfl⟩
theorem fn20_ok : FnOK Go.Proofs.Tryz.prog 20 fi20 := ⟨Go.Proofs.Tryz.f20, Go.Proofs.Tryz.func20, rfl, rfl, rfl, by kernel_rfl⟩
theorem fn21_ok : FnOK Go.Proofs.Tryz.prog 21 fi21 := ⟨Go.Proofs.Tryz.f21, Go.Proofs.Tryz.func21, rfl, rfl, rfl, by kernel_rfl⟩
theorem fn22_ok : FnOK Go.Proofs.Tryz.prog 22 fi22 := ⟨Go.Proofs.Tryz.f22, Go.Proofs.Tryz.func22, rfl, rfl, rfl, by kernel_rfl⟩
theorem fn23_ok : FnOK Go.Proofs.Tryz.prog 23 fi23 := ⟨Go.Proofs.Tryz.f23, Go.Proofs.Tryz.func23, rfl, rfl, rfl, by kernel_rfl⟩
theorem fn24_ok : FnOK Go.Proofs.Tryz.prog 24 fi24 := ⟨Go.Proofs.Tryz.f24, Go.Proofs.Tryz.func24, rfl, rfl, rfl, by kernel_rfl⟩
theorem fn25_ok : FnOK Go.Proofs.Tryz.prog 25 fi25 := ⟨Go.Proofs.Tryz.f25, Go.Proofs.Tryz.func25, rfl, rfl, rfl, by kernel_rfl⟩
theorem fn26_ok : FnOK Go.Proofs.Tryz.prog 26 fi26 := ⟨Go.Proofs.Tryz.f26, Go.Proofs.Tryz.func26, rfl, rfl, rfl, by kernel_rfl⟩
theorem fn27_ok : FnOK Go.Proofs.Tryz.prog 27 fi27 := ⟨Go.Proofs.Tryz.f27, Go.Proofs.Tryz.func27, rfl, rfl, rfl, by kernel_rfl⟩
theorem fn28_ok : FnOK Go.Proofs.Tryz.prog 28 fi28 := ⟨Go.Proofs.Tryz.f28, Go.Proofs.Tryz.func28, rfl, rfl, rfl, by kernel_rfl⟩
theorem fn29_ok : FnOK Go.Proofs.Tryz.prog 29 fi29 := ⟨Go.Proofs.Tryz.f29, Go.Proofs.Tryz.func29, rfl, rfl, rfl, by kernel_rfl⟩
theorem fn30_ok : FnOK Go.Proofs.Tryz.prog 30 fi30 := ⟨Go.Proofs.Tryz.f30, Go.Proofs.Tryz.func30, rfl, rfl, rfl, by kernel_rfl⟩
theorem fn31_ok : FnOK Go.Proofs.Tryz.prog 31 fi31 := ⟨Go.Proofs.Tryz.f31, Go.Proofs.Tryz.func31, rfl, rfl, rfl, by kernel_rfl⟩
theorem fn32_ok : FnOK Go.Proofs.Tryz.prog 32 fi32 := ⟨Go.Proofs.Tryz.f32, Go.Proofs.Tryz.func32, rfl, rfl, rfl, by kernel_rfl⟩
theorem fn33_ok : FnOK Go.Proofs.Tryz.prog 33 fi33 := ⟨Go.Proofs.Tryz.f33, Go.Proofs.Tryz.func33, rfl, rfl, rfl, by kernel_rfl⟩
theorem fn34_ok : FnOK Go.Proofs.Tryz.prog 34 fi34 := ⟨Go.Proofs.Tryz.f34, Go.Proofs.Tryz.func34, rfl, rfl, rfl, by kernel_rfl⟩
theorem fn35_ok : FnOK Go.Proofs.Tryz.prog 35 fi35 := ⟨Go.Proofs.Tryz.f35, Go.Proofs.Tryz.func35, rfl, rfl, rfl, by kernel_rfl⟩
theorem fn36_ok : FnOK Go.Proofs.Tryz.prog 36 fi36 := ⟨Go.Proofs.Tryz.f36, Go.Proofs.Tryz.func36, rfl, rfl, rfl, by kernel_rfl⟩
theorem fn37_ok : FnOK Go.Proofs.Tryz.prog 37 fi37 := ⟨Go.Proofs.Tryz.f37, Go.Proofs.Tryz.func37, rfl, rfl, rfl, by kernel_rfl⟩
theorem fn38_ok : FnOK Go.Proofs.Tryz.prog 38 fi38 := ⟨Go.Proofs.Tryz.f38, Go.Proofs.Tryz.func38, rfl, rfl, rfl, by kernel_rfl⟩
theorem fn39_ok : FnOK Go.Proofs.Tryz.prog 39 fi39 := ⟨Go.Proofs.Tryz.f39, Go.Proofs.Tryz.func39, rfl, rfl, rfl, by kernel_rfl⟩
theorem fn40_ok : FnOK Go.Proofs.Tryz.prog 40 fi40 := ⟨Go.Proofs.Tryz.f40, Go.Proofs.Tryz.func40, rfl, rfl, rfl, by kernel_rfl⟩
theorem fn41_ok : FnOK Go.Proofs.Tryz.prog 41 fi41 := ⟨Go.Proofs.Tryz.f41, Go.Proofs.Tryz.func41, rfl, rfl, rfl, by kernel_rfl⟩
theorem fn42_ok : FnOK Go.Proofs.Tryz.prog 42 fi42 := ⟨Go.Proofs.Tryz.f42, Go.Proofs.Tryz.func42, rfl, rfl, rfl, by kernel_rfl⟩
theorem fn43_ok : FnOK Go.Proofs.Tryz.prog 43 fi43 := ⟨Go.Proofs.Tryz.f43, Go.Proofs.Tryz.func43, rfl, rfl, rfl, by kernel_rfl⟩
theorem fn44_ok : FnOK Go.Proofs.Tryz.prog 44 fi44 := ⟨Go.Proofs.Tryz.f44, Go.Proofs.Tryz.func44, rfl, rfl, rfl, by kernel_rfl⟩
theorem fn45_ok : FnOK Go.Proofs.Tryz.prog 45 fi45 := ⟨Go.Proofs.Tryz.f45, Go.Proofs.Tryz.func45, rfl, rfl, rfl, by kernel_rfl⟩
theorem fn46_ok : FnOK Go.Proofs.Tryz.prog 46 fi46 := ⟨Go.Proofs.Tryz.f46, Go.Proofs.Tryz.func46, rfl, rfl, rfl, by kernel_rfl⟩
theorem fn47_ok : FnOK Go.Proofs.Tryz.prog 47 fi47 := ⟨Go.Proofs.Tryz.f47, Go.Proofs.Tryz.func47, rfl, rfl, rfl, by kernel_rfl⟩
theorem fn48_ok : FnOK Go.Proofs.Tryz.prog 48 fi48 := ⟨Go.Proofs.Tryz.f48, Go.Proofs.Tryz.func48, rfl, rfl, rfl, by kernel_rfl⟩
theorem fn49_ok : FnOK Go.Proofs.Tryz.prog 49 fi49 := ⟨Go.Proofs.Tryz.f49, Go.Proofs.Tryz.func49, rfl, rfl, rfl, by kernel_rfl⟩
theorem fn50_ok : FnOK Go.Proofs.Tryz.prog 50 fi50 := ⟨Go.Proofs.Tryz.f50, Go.Proofs.Tryz.func50, rfl, rfl, rfl, by kernel_rfl⟩
theorem fn51_ok : FnOK Go.Proofs.Tryz.prog 51 fi51 := ⟨Go.Proofs.Tryz.f51, Go.Proofs.Tryz.func51, rfl, rfl, rfl, by kernel_rfl⟩
theorem fn52_ok : FnOK Go.Proofs.Tryz.prog 52 fi52 := ⟨Go.Proofs.Tryz.f52, Go.Proofs.Tryz.func52, rfl, rfl, rfl, by kernel_rfl⟩
theorem fn53_ok : FnOK Go.Proofs.Tryz.prog 53 fi53 := ⟨Go.Proofs.Tryz.f53, Go.Proofs.Tryz.func53, rfl, rfl, rfl, by kernel_rfl⟩
theorem fn54_ok : FnOK Go.Proofs.Tryz.prog 54 fi54 := ⟨Go.Proofs.Tryz.f54, Go.Proofs.Tryz.func54, rfl, rfl, rfl, by kernel_rfl⟩
theorem fn55_ok : FnOK Go.Proofs.Tryz.prog 55 fi55 := ⟨Go.Proofs.Tryz.f55, Go.Proofs.Tryz.func55, rfl, rfl, rfl, by kernel_rfl⟩
theorem fn56_ok : FnOK Go.Proofs.Tryz.prog 56 fi56 := ⟨Go.Proofs.Tryz.f56, Go.Proofs.Tryz.func56, rfl, rfl, rfl, by kernel_rfl⟩
theorem fn57_ok : FnOK Go.Proofs.Tryz.prog 57 fi57 := ⟨Go.Proofs.Tryz.f57, Go.Proofs.Tryz.func57, rfl, rfl, rfl, by kernel_rfl⟩
theorem fn58_ok : FnOK Go.Proofs.Tryz.prog 58 fi58 := ⟨Go.Proofs.Tryz.f58, Go.Proofs.Tryz.func58, rfl, rfl, rfl, by kernel_rfl⟩
theorem fn59_ok : FnOK Go.Proofs.Tryz.prog 59 fi59 := ⟨Go.Proofs.Tryz.f59, Go.Proofs.Tryz.func59, rfl, rfl, rfl, by kernel_rfl⟩
theorem fn60_ok : FnOK Go.Proofs.Tryz.prog 60 fi60 := ⟨Go.Proofs.Tryz.f60, Go.Proofs.Tryz.func60, rfl, rfl, rfl, by kernel_rfl⟩
theorem fn61_ok : FnOK Go.Proofs.Tryz.prog 61 fi61 := ⟨Go.Proofs.Tryz.f61, Go.Proofs.Tryz.func61, rfl, rfl, rfl, by kernel_rfl⟩
theorem fn62_ok : FnOK Go.Proofs.Tryz.prog 62 fi62 := ⟨Go.Proofs.Tryz.f62, Go.Proofs.Tryz.func62, rfl, rfl, rfl, by kernel_rfl⟩
theorem fn63_ok : FnOK Go.Proofs.Tryz.prog 63 fi63 := ⟨Go.Proofs.Tryz.f63, Go.Proofs.Tryz.func63, rfl, rfl, rfl, by kernel_rfl⟩
theorem fn64_ok : FnOK Go.Proofs.Tryz.prog 64 fi64 := ⟨Go.Proofs.Tryz.f64, Go.Proofs.Tryz.func64, rfl, rfl, rfl, by kernel_rfl⟩
theorem fn65_ok : FnOK Go.Proofs.Tryz.prog 65 fi65 := ⟨Go.Proofs.Tryz.f65, Go.Proofs.Tryz.func65, rfl, rfl, rfl, by kernel_rfl⟩
theorem fn66_ok : FnOK Go.Proofs.Tryz.prog 66 fi66 := ⟨Go.Proofs.Tryz.f66, Go.Proofs.Tryz.func66, rfl, rfl, rfl, by kernel_rfl⟩
theorem fn67_ok : FnOK Go.Proofs.Tryz.prog 67 fi67 := ⟨Go.Proofs.Tryz.f67, Go.Proofs.Tryz.func67, rfl, rfl, rfl, by kernel_rfl⟩
theorem fn68_ok : FnOK Go.Proofs.Tryz.prog 68 fi68 := ⟨Go.Proofs.Tryz.f68, Go.Proofs.Tryz.func68, rfl, rfl, rfl, by kernel_rfl⟩
theorem fn69_ok : FnOK Go.Proofs.Tryz.prog 69 fi69 := ⟨Go.Proofs.Tryz.f69, Go.Proofs.Tryz.func69, rfl, rfl, rfl, by kernel_rfl⟩
theorem fn70_ok : FnOK Go.Proofs.Tryz.prog 70 fi70 := ⟨Go.Proofs.Tryz.f70, Go.Proofs.Tryz.func70, rfl, rfl, rfl, by kernel_rfl⟩
theorem fn71_ok : FnOK Go.Proofs.Tryz.prog 71 fi71 := ⟨Go.Proofs.Tryz.f71, Go.Proofs.Tryz.func71, rfl, rfl, rfl, by kernel_rfl⟩
theorem fn72_ok : FnOK Go.Proofs.Tryz.prog 72 fi72 := ⟨Go.Proofs.Tryz.f72, Go.Proofs.Tryz.func72, rfl, rfl, rfl, by kernel_rfl⟩
theorem fn73_ok : FnOK Go.Proofs.Tryz.prog 73 fi73 := ⟨Go.Proofs.Tryz.f73, Go.Proofs.Tryz.func73, rfl, rfl, rfl, by kernel_rfl⟩
theorem fn74_ok : FnOK Go.Proofs.Tryz.prog 74 fi74 := ⟨Go.Proofs.Tryz.f74, Go.Proofs.Tryz.func74, rfl, rfl, rfl, by kernel_rfl⟩
theorem fn75_ok : FnOK Go.Proofs.Tryz.prog 75 fi75 := ⟨Go.Proofs.Tryz.f75, Go.Proofs.Tryz.func75, rfl, rfl, rfl, by kernel_rfl⟩
theorem fn76_ok : FnOK Go.Proofs.Tryz.prog 76 fi76 := ⟨Go.Proofs.Tryz.f76, Go.Proofs.Tryz.func76, rfl, rfl, rfl, by kernel_rfl⟩
theorem fn77_ok : FnOK Go.Proofs.Tryz.prog 77 fi77 := ⟨Go.Proofs.Tryz.f77, Go.Proofs.Tryz.func77, rfl, rfl, rfl, by kernel_rfl⟩
theorem fn78_ok : FnOK Go.Proofs.Tryz.prog 78 fi78 := ⟨Go.Proofs.Tryz.f78, Go.Proofs.Tryz.func78, rfl, rfl, rfl, by kernel_rfl⟩
theorem fn79_ok : FnOK Go.Proofs.Tryz.prog 79 fi79 := ⟨Go.Proofs.Tryz.f79, Go.Proofs.Tryz.func79, rfl, rfl, rfl, by kernel_rfl⟩
theorem fn80_ok : FnOK Go.Proofs.Tryz.prog 80 fi80 := ⟨Go.Proofs.Tryz.f80, Go.Proofs.Tryz.func80, rfl, rfl, rfl, by kernel_rfl⟩
theorem fn81_ok : FnOK Go.Proofs.Tryz.prog 81 fi81 := ⟨Go.Proofs.Tryz.f81, Go.Proofs.Tryz.func81, rfl, rfl, rfl, by kernel_rfl⟩
theorem fn82_ok : FnOK Go.Proofs.Tryz.prog 82 fi82 := ⟨Go.Proofs.Tryz.f82, Go.Proofs.Tryz.func82, rfl, rfl, rfl, by kernel_rfl⟩
theorem fn83_ok : FnOK Go.Proofs.Tryz.prog 83 fi83 := ⟨Go.Proofs.Tryz.f83, Go.Proofs.Tryz.func83, rfl, rfl, rfl, by kernel_rfl⟩
theorem fn84_ok : FnOK Go.Proofs.Tryz.prog 84 fi84 := ⟨Go.Proofs.Tryz.f84, Go.Proofs.Tryz.func84, rfl, rfl, rfl, by kernel_rfl⟩
theorem fn85_ok : FnOK Go.Proofs.Tryz.prog 85 fi85 := ⟨Go.Proofs.Tryz.f85, Go.Proofs.Tryz.func85, rfl, rfl, rfl, by kernel_rfl⟩
theorem fn86_ok : FnOK Go.Proofs.Tryz.prog 86 fi86 := ⟨Go.Proofs.Tryz.f86, Go.Proofs.Tryz.func86, rfl, rfl, rfl, by kernel_rfl⟩
theorem fn87_ok : FnOK Go.Proofs.Tryz.prog 87 fi87 := ⟨Go.Proofs.Tryz.f87, Go.Proofs.Tryz.func87, rfl, rfl, rfl, by kernel_rfl⟩
theorem fn88_ok : FnOK Go.Proofs.Tryz.prog 88 fi88 := ⟨Go.Proofs.Tryz.f88, Go.Proofs.Tryz.func88, rfl, rfl, rfl, by kernel_rfl⟩
theorem fn89_ok : FnOK Go.Proofs.Tryz.prog 89 fi89 := ⟨Go.Proofs.Tryz.f89, Go.Proofs.Tryz.func89, rfl, rfl, rfl, by kernel_rfl⟩
theorem fn90_ok : FnOK Go.Proofs.Tryz.prog 90 fi90 := ⟨Go.Proofs.Tryz.f90, Go.Proofs.Tryz.func90, rfl, rfl, rfl, by kernel_rfl⟩
theorem fn91_ok : FnOK Go.Proofs.Tryz.prog 91 fi91 := ⟨Go.Proofs.Tryz.f91, Go.Proofs.Tryz.func91, rfl, rfl, rfl, by kernel_rfl⟩
theorem fn92_ok : FnOK Go.Proofs.Tryz.prog 92 fi92 := ⟨Go.Proofs.Tryz.f92, Go.Proofs.Tryz.func92, rfl, rfl, rfl, by kernel_rfl⟩
theorem fn93_ok : FnOK Go.Proofs.Tryz.prog 93 fi93 := ⟨Go.Proofs.Tryz.f93, Go.Proofs.Tryz.func93, rfl, rfl, rfl, by kernel_rfl⟩
theorem fn94_ok : FnOK Go.Proofs.Tryz.prog 94 fi94 := ⟨Go.Proofs.Tryz.f94, Go.Proofs.Tryz.func94, rfl, rfl, rfl, by kernel_rfl⟩
theorem fn95_ok : FnOK Go.Proofs.Tryz.prog 95 fi95 := ⟨Go.Proofs.Tryz.f95, Go.Proofs.Tryz.func95, rfl, rfl, rfl, by kernel_rfl⟩
theorem fn96_ok : FnOK Go.Proofs.Tryz.prog 96 fi96 := ⟨Go.Proofs.Tryz.f96, Go.Proofs.Tryz.func96, rfl, rfl, rfl, by kernel_rfl⟩
theorem fn97_ok : FnOK Go.Proofs.Tryz.prog 97 fi97 := ⟨Go.Proofs.Tryz.f97, Go.Proofs.Tryz.func97, rfl, rfl, rfl, by kernel_rfl⟩
theorem fn98_ok : FnOK Go.Proofs.Tryz.prog 98 fi98 := ⟨Go.Proofs.Tryz.f98, Go.Proofs.Tryz.func98, rfl, rfl, rfl, by kernel_rfl⟩
theorem fn99_ok : FnOK Go.Proofs.Tryz.prog 99 fi99 := ⟨Go.Proofs.Tryz.f99, Go.Proofs.Tryz.func99, rfl, rfl, rfl, by kernel_rfl⟩
theorem fn100_ok : FnOK Go.Proofs.Tryz.prog 100 fi100 := ⟨Go.Proofs.Tryz.f100, Go.Proofs.Tryz.func100, rfl, rfl, rfl, by kernel_rfl⟩
theorem fn101_ok : FnOK Go.Proofs.Tryz.prog 101 fi101 := ⟨Go.Proofs.Tryz.f101, Go.Proofs.Tryz.func101, rfl, rfl, rfl, by kernel_rfl⟩
theorem fns_ok : AllP (FnOK Go.Proofs.Tryz.prog) fnL := ⟨fn3_ok, fn4_ok, fn5_ok, fn6_ok, fn8_ok, fn9_ok, fn10_ok, fn11_ok, fn12_ok, fn13_ok, fn14_ok, fn15_ok, fn16_ok, fn17_ok, fn18_ok, fn19_ok, fn20_ok, fn21_ok, fn22_ok, fn23_ok, fn24_ok, fn25_ok, fn26_ok, fn27_ok, fn28_ok, fn29_ok, fn30_ok, fn31_ok, fn32_ok, fn33_ok, fn34_ok, fn35_ok, fn36_ok, fn37_ok, fn38_ok, fn39_ok, fn40_ok, fn41_ok, fn42_ok, fn43_ok, fn44_ok, fn45_ok, fn46_ok, fn47_ok, fn48_ok, fn49_ok, fn50_ok, fn51_ok, fn52_ok, fn53_ok, fn54_ok, fn55_ok, fn56_ok, fn57_ok, fn58_ok, fn59_ok, fn60_ok, fn61_ok, fn62_ok, fn63_ok, fn64_ok, fn65_ok, fn66_ok, fn67_ok, fn68_ok, fn69_ok, fn70_ok, fn71_ok, fn72_ok, fn73_ok, fn74_ok, fn75_ok, fn76_ok, fn77_ok, fn78_ok, fn79_ok, fn80_ok, fn81_ok, fn82_ok, fn83_ok, fn84_ok, fn85_ok, fn86_ok, fn87_ok, fn88_ok, fn89_ok, fn90_ok, fn91_ok, fn92_ok, fn93_ok, fn94_ok, fn95_ok, fn96_ok, fn97_ok, fn98_ok, fn99_ok, fn100_ok, fn101_ok, trivial⟩
theorem mixed : (Go.Proofs.Tryz.prog).follows .mixedOrders = true := by kernel_rfl
theorem ext_ok (f : FuncId) (args : List Arg) (r : (sigOf f).den) (h : extOf f args = some r) : CallOK Go.Proofs.Tryz.prog elid sigOf f args r := by
  unfold extOf at h
  by_cases e102 : f = 102
  · subst e102
    rw [dif_pos rfl] at h
    exact itoa_ok (by kernel_rfl) ⟨Go.Proofs.Tryz.f102, Go.Proofs.Tryz.func102, rfl, by kernel_rfl⟩ Go.Proofs.Tryz.strconv_Itoa (fun _ h => h) h HEq.rfl
  rw [dif_neg e102] at h
  by_cases e103 : f = 103
  · subst e103
    rw [dif_pos rfl] at h
    exact join_ok (by kernel_rfl) ⟨Go.Proofs.Tryz.f103, Go.Proofs.Tryz.func103, rfl, by kernel_rfl⟩ Go.Proofs.Tryz.strings_Join_none Go.Proofs.Tryz.strings_Join h HEq.rfl
  rw [dif_neg e103] at h
  cases h
/-- What the machine answers, the program answers. -/
theorem lv_ok (k : Nat) : LvOK Go.Proofs.Tryz.prog elid sigOf (lvl (E idb) k) :=
  levels (E := E idb) (fun T i h => (tysOk_spec tys_ok).look T i h) (fun _ _ => rfl) (fun f fi h => fns_ok.look f fi h) (fun f args r _ h => ext_ok f args r h) mixed k

end Go.Proofs.YtppmpfddcohkjaaGreatDoorA
