/- The program is what the machine is told of it, so that what the machine answers of a call is what the program answers; no condition. -/
import Derived.Test.YtppmpfddcohkjaaDoorExt2
import Derived.Test.YtppmpfddcohkjaaDoorShelf
import Derived.Test.YtppmpfddcohkjaaDoorEnv
namespace Go.Proofs.YtppmpfddcohkjaaDoorA
open Go
set_option linter.unusedVariables false

def elidF (t : El) : Nat :=
  match t with
  | .int .i64 => 3
  | .int .u8 => 5
  | .str => 9
  | .arr => 27
  | .node => 48
  | _ => 0
/-- The tables that the library reads. -/
def Tabs (w : World) : Prop := Lib.TabIs Go.Proofs.Tryd.prog w "internal/strconv.uint64pow10" .u64 Lib.pow10Tab
theorem glob0 : (Go.Proofs.Tryd.prog).globalNamed "internal/strconv.uint64pow10" = some 0 := by kernel_rfl
def elid : Elid := ⟨elidF, [0], Tabs, fun w w' q h => tab_stable glob0 (q 0 (by decide)) h⟩
theorem tabs_ok {W : World} (h : Tabs W) : TabOK elid W ⟨fun _ _ => .imm, fun _ _ => .slice none 0 0, fun _ => (0, 0)⟩ := by
  refine ⟨h, fun b hb => ⟨?_, fun _ => rfl⟩⟩
  have hb' : b ∈ [0] := hb
  simp only [List.mem_cons, List.not_mem_nil, or_false] at hb'
  rw [hb']
  exact tab_lt glob0 h
theorem tys_ok : tysOk Go.Proofs.Tryd.prog elid tyL = true := by kernel_rfl
theorem fn3_ok : FnOK Go.Proofs.Tryd.prog 3 fi3 := ⟨Go.Proofs.Tryd.f3, Go.Proofs.Tryd.func3, rfl, rfl, rfl, by kernel_rfl⟩
theorem fn4_ok : FnOK Go.Proofs.Tryd.prog 4 fi4 := ⟨Go.Proofs.Tryd.f4, Go.Proofs.Tryd.func4, rfl, rfl, rfl, by kernel_rfl⟩
theorem fn5_ok : FnOK Go.Proofs.Tryd.prog 5 fi5 := ⟨Go.Proofs.Tryd.f5, Go.Proofs.Tryd.func5, rfl, rfl, rfl, by kernel_rfl⟩
theorem fn6_ok : FnOK Go.Proofs.Tryd.prog 6 fi6 := ⟨Go.Proofs.Tryd.f6, Go.Proofs.Tryd.func6, rfl, rfl, rfl, by kernel_rfl⟩
theorem fn7_ok : FnOK Go.Proofs.Tryd.prog 7 fi7 := ⟨Go.Proofs.Tryd.f7, Go.Proofs.Tryd.func7, rfl, rfl, rfl, by kernel_rfl⟩
theorem fn8_ok : FnOK Go.Proofs.Tryd.prog 8 fi8 := ⟨Go.Proofs.Tryd.f8, Go.Proofs.Tryd.func8, rfl, rfl, rfl, by kernel_rfl⟩
theorem fn9_ok : FnOK Go.Proofs.Tryd.prog 9 fi9 := ⟨Go.Proofs.Tryd.f9, Go.Proofs.Tryd.func9, rfl, rfl, rfl, by kernel_rfl⟩
theorem fn10_ok : FnOK Go.Proofs.Tryd.prog 10 fi10 := ⟨Go.Proofs.Tryd.f10, Go.Proofs.Tryd.func10, rfl, rfl, rfl, by kernel_rfl⟩
theorem fn11_ok : FnOK Go.Proofs.Tryd.prog 11 fi11 := ⟨Go.Proofs.Tryd.f11, Go.Proofs.Tryd.func11, rfl, rfl, rfl, by kernel_rfl⟩
theorem fn12_ok : FnOK Go.Proofs.Tryd.prog 12 fi12 := ⟨Go.Proofs.Tryd.f12, Go.Proofs.Tryd.func12, rfl, rfl, rfl, by kernel_rfl⟩
theorem fn13_ok : FnOK Go.Proofs.Tryd.prog 13 fi13 := ⟨Go.Proofs.Tryd.f13, Go.Proofs.Tryd.func13, rfl, rfl, rfl, by kernel_rfl⟩
theorem fn14_ok : FnOK Go.Proofs.Tryd.prog 14 fi14 := ⟨Go.Proofs.Tryd.f14, Go.Proofs.Tryd.func14, rfl, rfl, rfl, by kernel_rfl⟩
theorem fn15_ok : FnOK Go.Proofs.Tryd.prog 15 fi15 := ⟨Go.Proofs.Tryd.f15, Go.Proofs.Tryd.func15, rfl, rfl, rfl, by kernel_rfl⟩
theorem fn16_ok : FnOK Go.Proofs.Tryd.prog 16 fi16 := ⟨Go.Proofs.Tryd.f16, Go.Proofs.Tryd.func16, rfl, rfl, rfl, by kernel_rfl⟩
theorem fn17_ok : FnOK Go.Proofs.Tryd.prog 17 fi17 := ⟨Go.Proofs.Tryd.f17, Go.Proofs.Tryd.func17, rfl, rfl, rfl, by kernel_rfl⟩
theorem fn18_ok : FnOK Go.Proofs.Tryd.prog 18 fi18 := ⟨Go.Proofs.Tryd.f18, Go.Proofs.Tryd.func18, rfl, rfl, rfl, by kernel_rfl⟩
theorem fn19_ok : FnOK Go.Proofs.Tryd.prog 19 fi19 := ⟨Go.Proofs.Tryd.f19, Go.Proofs.Tryd.func19, rfl, rfl, rfl, by kernel_rfl⟩
theorem fn20_ok : FnOK Go.Proofs.Tryd.prog 20 fi20 := ⟨Go.Proofs.Tryd.f20, Go.Proofs.Tryd.func20, rfl, rfl, rfl, by kernel_rfl⟩
theorem fn21_ok : FnOK Go.Proofs.Tryd.prog 21 fi21 := ⟨Go.Proofs.Tryd.f21, Go.Proofs.Tryd.func21, rfl, rfl, rfl, by kernel_rfl⟩
theorem fn22_ok : FnOK Go.Proofs.Tryd.prog 22 fi22 := ⟨Go.Proofs.Tryd.f22, Go.Proofs.Tryd.func22, rfl, rfl, rfl, by kernel_rfl⟩
theorem fn23_ok : FnOK Go.Proofs.Tryd.prog 23 fi23 := ⟨Go.Proofs.Tryd.f23, Go.Proofs.Tryd.func23, rfl, rfl, rfl, by kernel_rfl⟩
theorem fn24_ok : FnOK Go.Proofs.Tryd.prog 24 fi24 := ⟨Go.Proofs.Tryd.f24, Go.Proofs.Tryd.func24, rfl, rfl, rfl, by kernel_rfl⟩
theorem fn25_ok : FnOK Go.Proofs.Tryd.prog 25 fi25 := ⟨Go.Proofs.Tryd.f25, Go.Proofs.Tryd.func25, rfl, rfl, rfl, by kernel_rfl⟩
theorem fn26_ok : FnOK Go.Proofs.Tryd.prog 26 fi26 := ⟨Go.Proofs.Tryd.f26, Go.Proofs.Tryd.func26, rfl, rfl, rfl, by kernel_rfl⟩
theorem fn27_ok : FnOK Go.Proofs.Tryd.prog 27 fi27 := ⟨Go.Proofs.Tryd.f27, Go.Proofs.Tryd.func27, rfl, rfl, rfl, by kernel_rfl⟩
theorem fn28_ok : FnOK Go.Proofs.Tryd.prog 28 fi28 := ⟨Go.Proofs.Tryd.f28, Go.Proofs.Tryd.func28, rfl, rfl, rfl, by kernel_rfl⟩
theorem fn29_ok : FnOK Go.Proofs.Tryd.prog 29 fi29 := ⟨Go.Proofs.Tryd.f29, Go.Proofs.Tryd.func29, rfl, rfl, rfl, by kernel_rfl⟩
theorem fn30_ok : FnOK Go.Proofs.Tryd.prog 30 fi30 := ⟨Go.Proofs.Tryd.f30, Go.Proofs.Tryd.func30, rfl, rfl, rfl, by kernel_rfl⟩
theorem fn31_ok : FnOK Go.Proofs.Tryd.prog 31 fi31 := ⟨Go.Proofs.Tryd.f31, Go.Proofs.Tryd.func31, rfl, rfl, rfl, by kernel_rfl⟩
theorem fn32_ok : FnOK Go.Proofs.Tryd.prog 32 fi32 := ⟨Go.Proofs.Tryd.f32, Go.Proofs.Tryd.func32, rfl, rfl, rfl, by kernel_rfl⟩
theorem fn33_ok : FnOK Go.Proofs.Tryd.prog 33 fi33 := ⟨Go.Proofs.Tryd.f33, Go.Proofs.Tryd.func33, rfl, rfl, rfl, by kernel_rfl⟩
theorem fn34_ok : FnOK Go.Proofs.Tryd.prog 34 fi34 := ⟨Go.Proofs.Tryd.f34, Go.Proofs.Tryd.func34, rfl, rfl, rfl, by kernel_rfl⟩
theorem fn35_ok : FnOK Go.Proofs.Tryd.prog 35 fi35 := ⟨Go.Proofs.Tryd.f35, Go.Proofs.Tryd.func35, rfl, rfl, rfl, by kernel_rfl⟩
theorem fn36_ok : FnOK Go.Proofs.Tryd.prog 36 fi36 := ⟨Go.Proofs.Tryd.f36, Go.Proofs.Tryd.func36, rfl, rfl, rfl, by kernel_rfl⟩
theorem fn37_ok : FnOK Go.Proofs.Tryd.prog 37 fi37 := ⟨Go.Proofs.Tryd.f37, Go.Proofs.Tryd.func37, rfl, rfl, rfl, by kernel_rfl⟩
theorem fn38_ok : FnOK Go.Proofs.Tryd.prog 38 fi38 := ⟨Go.Proofs.Tryd.f38, Go.Proofs.Tryd.func38, rfl, rfl, rfl, by kernel_rfl⟩
theorem fn39_ok : FnOK Go.Proofs.Tryd.prog 39 fi39 := ⟨Go.Proofs.Tryd.f39, Go.Proofs.Tryd.func39, rfl, rfl, rfl, by kernel_rfl⟩
theorem fn40_ok : FnOK Go.Proofs.Tryd.prog 40 fi40 := ⟨Go.Proofs.Tryd.f40, Go.Proofs.Tryd.func40, rfl, rfl, rfl, by kernel_rfl⟩
theorem fn41_ok : FnOK Go.Proofs.Tryd.prog 41 fi41 := ⟨Go.Proofs.Tryd.f41, Go.Proofs.Tryd.func41, rfl, rfl, rfl, by kernel_rfl⟩
theorem fn42_ok : FnOK Go.Proofs.Tryd.prog 42 fi42 := ⟨Go.Proofs.Tryd.f42, Go.Proofs.Tryd.func42, rfl, rfl, rfl, by kernel_rfl⟩
theorem fn43_ok : FnOK Go.Proofs.Tryd.prog 43 fi43 := ⟨Go.Proofs.Tryd.f43, Go.Proofs.Tryd.func43, rfl, rfl, rfl, by kernel_rfl⟩
theorem fn44_ok : FnOK Go.Proofs.Tryd.prog 44 fi44 := ⟨Go.Proofs.Tryd.f44, Go.Proofs.Tryd.func44, rfl, rfl, rfl, by kernel_rfl⟩
theorem fn45_ok : FnOK Go.Proofs.Tryd.prog 45 fi45 := ⟨Go.Proofs.Tryd.f45, Go.Proofs.Tryd.func45, rfl, rfl, rfl, by kernel_rfl⟩
theorem fn46_ok : FnOK Go.Proofs.Tryd.prog 46 fi46 := ⟨Go.Proofs.Tryd.f46, Go.Proofs.Tryd.func46, rfl, rfl, rfl, by kernel_rfl⟩
theorem fn47_ok : FnOK Go.Proofs.Tryd.prog 47 fi47 := ⟨Go.Proofs.Tryd.f47, Go.Proofs.Tryd.func47, rfl, rfl, rfl, by kernel_rfl⟩
theorem fn48_ok : FnOK Go.Proofs.Tryd.prog 48 fi48 := ⟨Go.Proofs.Tryd.f48, Go.Proofs.Tryd.func48, rfl, rfl, rfl, by kernel_rfl⟩
theorem fn49_ok : FnOK Go.Proofs.Tryd.prog 49 fi49 := ⟨Go.Proofs.Tryd.f49, Go.Proofs.Tryd.func49, rfl, rfl, rfl, by kernel_rfl⟩
theorem fn50_ok : FnOK Go.Proofs.Tryd.prog 50 fi50 := ⟨Go.Proofs.Tryd.f50, Go.Proofs.Tryd.func50, rfl, rfl, rfl, by kernel_rfl⟩
theorem fn51_ok : FnOK Go.Proofs.Tryd.prog 51 fi51 := ⟨Go.Proofs.Tryd.f51, Go.Proofs.Tryd.func51, rfl, rfl, rfl, by kernel_rfl⟩
theorem fn52_ok : FnOK Go.Proofs.Tryd.prog 52 fi52 := ⟨Go.Proofs.Tryd.f52, Go.Proofs.Tryd.func52, rfl, rfl, rfl, by kernel_rfl⟩
theorem fn53_ok : FnOK Go.Proofs.Tryd.prog 53 fi53 := ⟨Go.Proofs.Tryd.f53, Go.Proofs.Tryd.func53, rfl, rfl, rfl, by kernel_rfl⟩
theorem fn54_ok : FnOK Go.Proofs.Tryd.prog 54 fi54 := ⟨Go.Proofs.Tryd.f54, Go.Proofs.Tryd.func54, rfl, rfl, rfl, by kernel_rfl⟩
theorem fn55_ok : FnOK Go.Proofs.Tryd.prog 55 fi55 := ⟨Go.Proofs.Tryd.f55, Go.Proofs.Tryd.func55, rfl, rfl, rfl, by kernel_rfl⟩
theorem fn56_ok : FnOK Go.Proofs.Tryd.prog 56 fi56 := ⟨Go.Proofs.Tryd.f56, Go.Proofs.Tryd.func56, rfl, rfl, rfl, by kernel_rfl⟩
theorem fn57_ok : FnOK Go.Proofs.Tryd.prog 57 fi57 := ⟨Go.Proofs.Tryd.f57, Go.Proofs.Tryd.func57, rfl, rfl, rfl, by kernel_rfl⟩
theorem fn58_ok : FnOK Go.Proofs.Tryd.prog 58 fi58 := ⟨Go.Proofs.Tryd.f58, Go.Proofs.Tryd.func58, rfl, rfl, rfl, by kernel_rfl⟩
theorem fn59_ok : FnOK Go.Proofs.Tryd.prog 59 fi59 := ⟨Go.Proofs.Tryd.f59, Go.Proofs.Tryd.func59, rfl, rfl, rfl, by kernel_rfl⟩
theorem fn60_ok : FnOK Go.Proofs.Tryd.prog 60 fi60 := ⟨Go.Proofs.Tryd.f60, Go.Proofs.Tryd.func60, rfl, rfl, rfl, by kernel_rfl⟩
theorem fn61_ok : FnOK Go.Proofs.Tryd.prog 61 fi61 := ⟨Go.Proofs.Tryd.f61, Go.Proofs.Tryd.func61, rfl, rfl, rfl, by kernel_rfl⟩
theorem fn62_ok : FnOK Go.Proofs.Tryd.prog 62 fi62 := ⟨Go.Proofs.Tryd.f62, Go.Proofs.Tryd.func62, rfl, rfl, rfl, by kernel_rfl⟩
theorem fn63_ok : FnOK Go.Proofs.Tryd.prog 63 fi63 := ⟨Go.Proofs.Tryd.f63, Go.Proofs.Tryd.func63, rfl, rfl, rfl, by kernel_rfl⟩
theorem fn64_ok : FnOK Go.Proofs.Tryd.prog 64 fi64 := ⟨Go.Proofs.Tryd.f64, Go.Proofs.Tryd.func64, rfl, rfl, rfl, by kernel_rfl⟩
theorem fn65_ok : FnOK Go.Proofs.Tryd.prog 65 fi65 := ⟨Go.Proofs.Tryd.f65, Go.Proofs.Tryd.func65, rfl, rfl, rfl, by kernel_rfl⟩
theorem fn66_ok : FnOK Go.Proofs.Tryd.prog 66 fi66 := ⟨Go.Proofs.Tryd.f66, Go.Proofs.Tryd.func66, rfl, rfl, rfl, by kernel_rfl⟩
theorem fn67_ok : FnOK Go.Proofs.Tryd.prog 67 fi67 := ⟨Go.Proofs.Tryd.f67, Go.Proofs.Tryd.func67, rfl, rfl, rfl, by kernel_rfl⟩
theorem fn68_ok : FnOK Go.Proofs.Tryd.prog 68 fi68 := ⟨Go.Proofs.Tryd.f68, Go.Proofs.Tryd.func68, rfl, rfl, rfl, by kernel_rfl⟩
theorem fn69_ok : FnOK Go.Proofs.Tryd.prog 69 fi69 := ⟨Go.Proofs.Tryd.f69, Go.Proofs.Tryd.func69, rfl, rfl, rfl, by kernel_rfl⟩
theorem fn70_ok : FnOK Go.Proofs.Tryd.prog 70 fi70 := ⟨Go.Proofs.Tryd.f70, Go.Proofs.Tryd.func70, rfl, rfl, rfl, by kernel_rfl⟩
theorem fn71_ok : FnOK Go.Proofs.Tryd.prog 71 fi71 := ⟨Go.Proofs.Tryd.f71, Go.Proofs.Tryd.func71, rfl, rfl, rfl, by kernel_rfl⟩
theorem fn72_ok : FnOK Go.Proofs.Tryd.prog 72 fi72 := ⟨Go.Proofs.Tryd.f72, Go.Proofs.Tryd.func72, rfl, rfl, rfl, by kernel_rfl⟩
theorem fn73_ok : FnOK Go.Proofs.Tryd.prog 73 fi73 := ⟨Go.Proofs.Tryd.f73, Go.Proofs.Tryd.func73, rfl, rfl, rfl, by kernel_rfl⟩
theorem fn74_ok : FnOK Go.Proofs.Tryd.prog 74 fi74 := ⟨Go.Proofs.Tryd.f74, Go.Proofs.Tryd.func74, rfl, rfl, rfl, by kernel_rfl⟩
theorem fn75_ok : FnOK Go.Proofs.Tryd.prog 75 fi75 := ⟨Go.Proofs.Tryd.f75, Go.Proofs.Tryd.func75, rfl, rfl, rfl, by kernel_rfl⟩
theorem fn76_ok : FnOK Go.Proofs.Tryd.prog 76 fi76 := ⟨Go.Proofs.Tryd.f76, Go.Proofs.Tryd.func76, rfl, rfl, rfl, by kernel_rfl⟩
theorem fn77_ok : FnOK Go.Proofs.Tryd.prog 77 fi77 := ⟨Go.Proofs.Tryd.f77, Go.Proofs.Tryd.func77, rfl, rfl, rfl, by kernel_rfl⟩
theorem fn78_ok : FnOK Go.Proofs.Tryd.prog 78 fi78 := ⟨Go.Proofs.Tryd.f78, Go.Proofs.Tryd.func78, rfl, rfl, rfl, by kernel_rfl⟩
theorem fn79_ok : FnOK Go.Proofs.Tryd.prog 79 fi79 := ⟨Go.Proofs.Tryd.f79, Go.Proofs.Tryd.func79, rfl, rfl, rfl, by kernel_rfl⟩
theorem fn80_ok : FnOK Go.Proofs.Tryd.prog 80 fi80 := ⟨Go.Proofs.Tryd.f80, Go.Proofs.Tryd.func80, rfl, rfl, rfl, by kernel_rfl⟩
theorem fns_ok : AllP (FnOK Go.Proofs.Tryd.prog) fnL := ⟨fn3_ok, fn4_ok, fn5_ok, fn6_ok, fn7_ok, fn8_ok, fn9_ok, fn10_ok, fn11_ok, fn12_ok, fn13_ok, fn14_ok, fn15_ok, fn16_ok, fn17_ok, fn18_ok, fn19_ok, fn20_ok, fn21_ok, fn22_ok, fn23_ok, fn24_ok, fn25_ok, fn26_ok, fn27_ok, fn28_ok, fn29_ok, fn30_ok, fn31_ok, fn32_ok, fn33_ok, fn34_ok, fn35_ok, fn36_ok, fn37_ok, fn38_ok, fn39_ok, fn40_ok, fn41_ok, fn42_ok, fn43_ok, fn44_ok, fn45_ok, fn46_ok, fn47_ok, fn48_ok, fn49_ok, fn50_ok, fn51_ok, fn52_ok, fn53_ok, fn54_ok, fn55_ok, fn56_ok, fn57_ok, fn58_ok, fn59_ok, fn60_ok, fn61_ok, fn62_ok, fn63_ok, fn64_ok, fn65_ok, fn66_ok, fn67_ok, fn68_ok, fn69_ok, fn70_ok, fn71_ok, fn72_ok, fn73_ok, fn74_ok, fn75_ok, fn76_ok, fn77_ok, fn78_ok, fn79_ok, fn80_ok, trivial⟩
theorem mixed : (Go.Proofs.Tryd.prog).follows .mixedOrders = true := by kernel_rfl
theorem ext_ok (f : FuncId) (args : List Arg) (r : (sigOf f).den) (h : extOf f args = some r) : CallOK Go.Proofs.Tryd.prog elid sigOf f args r := by
  unfold extOf at h
  by_cases e81 : f = 81
  · subst e81
    rw [dif_pos rfl] at h
    exact itoa_ok (by kernel_rfl) ⟨Go.Proofs.Tryd.f81, Go.Proofs.Tryd.func81, rfl, by kernel_rfl⟩ Go.Proofs.Tryd.strconv_Itoa (fun _ h => h) h HEq.rfl
  rw [dif_neg e81] at h
  by_cases e82 : f = 82
  · subst e82
    rw [dif_pos rfl] at h
    exact join_ok (by kernel_rfl) ⟨Go.Proofs.Tryd.f82, Go.Proofs.Tryd.func82, rfl, by kernel_rfl⟩ Go.Proofs.Tryd.strings_Join_none Go.Proofs.Tryd.strings_Join h HEq.rfl
  rw [dif_neg e82] at h
  cases h
/-- What the machine answers, the program answers. -/
theorem lv_ok (k : Nat) : LvOK Go.Proofs.Tryd.prog elid sigOf (lvl (E idb) k) :=
  levels (E := E idb) (fun T i h => (tysOk_spec tys_ok).look T i h) (fun _ _ => rfl) (fun f fi h => fns_ok.look f fi h) (fun f args r _ h => ext_ok f args r h) mixed k

end Go.Proofs.YtppmpfddcohkjaaDoorA
