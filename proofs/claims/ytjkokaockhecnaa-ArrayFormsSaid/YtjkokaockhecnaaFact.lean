/- The program is what the machine is told of it, so that what the machine answers of a call is what the program answers; no condition. -/
import Derived.Test.YtjkokaockhecnaaExt3
import Derived.Test.YtjkokaockhecnaaEnv
namespace Go.Proofs.YtjkokaockhecnaaA
open Go
set_option linter.unusedVariables false

def elidF (t : El) : Nat :=
  match t with
  | .int .i64 => 3
  | .bool => 4
  | .int .u8 => 5
  | .str => 9
  | .node => 24
  | .arr => 30
  | .list .str => 33
  | _ => 0
def elid : Elid := ⟨elidF, [], fun _ => True, fun _ _ _ h => h⟩
def Tabs (_ : World) : Prop := True
theorem tabs_ok {W : World} (_ : Tabs W) : TabOK elid W ⟨fun _ _ => .imm, fun _ _ => .slice none 0 0, fun _ => (0, 0)⟩ := ⟨trivial, fun b hb => by cases hb⟩
theorem tys_ok : tysOk Go.Proofs.Try.prog elid tyL = true := by kernel_rfl
theorem fn3_ok : FnOK Go.Proofs.Try.prog 3 fi3 := ⟨Go.Proofs.Try.f3, Go.Proofs.Try.func3, rfl, rfl, rfl, by kernel_rfl⟩
theorem fn6_ok : FnOK Go.Proofs.Try.prog 6 fi6 := ⟨Go.Proofs.Try.f6, Go.Proofs.Try.func6, rfl, rfl, rfl, by kernel_rfl⟩
theorem fn7_ok : FnOK Go.Proofs.Try.prog 7 fi7 := ⟨Go.Proofs.Try.f7, Go.Proofs.Try.func7, rfl, rfl, rfl, by kernel_rfl⟩
theorem fn8_ok : FnOK Go.Proofs.Try.prog 8 fi8 := ⟨Go.Proofs.Try.f8, Go.Proofs.Try.func8, rfl, rfl, rfl, by kernel_rfl⟩
theorem fn9_ok : FnOK Go.Proofs.Try.prog 9 fi9 := ⟨Go.Proofs.Try.f9, Go.Proofs.Try.func9, rfl, rfl, rfl, by kernel_rfl⟩
theorem fn10_ok : FnOK Go.Proofs.Try.prog 10 fi10 := ⟨Go.Proofs.Try.f10, Go.Proofs.Try.func10, rfl, rfl, rfl, by kernel_rfl⟩
theorem fn11_ok : FnOK Go.Proofs.Try.prog 11 fi11 := ⟨Go.Proofs.Try.f11, Go.Proofs.Try.func11, rfl, rfl, rfl, by kernel_rfl⟩
theorem fn12_ok : FnOK Go.Proofs.Try.prog 12 fi12 := ⟨Go.Proofs.Try.f12, Go.Proofs.Try.func12, rfl, rfl, rfl, by kernel_rfl⟩
theorem fn18_ok : FnOK Go.Proofs.Try.prog 18 fi18 := ⟨Go.Proofs.Try.f18, Go.Proofs.Try.func18, rfl, rfl, rfl, by kernel_rfl⟩
theorem fn19_ok : FnOK Go.Proofs.Try.prog 19 fi19 := ⟨Go.Proofs.Try.f19, Go.Proofs.Try.func19, rfl, rfl, rfl, by kernel_rfl⟩
theorem fn20_ok : FnOK Go.Proofs.Try.prog 20 fi20 := ⟨Go.Proofs.Try.f20, Go.Proofs.Try.func20, rfl, rfl, rfl, by kernel_rfl⟩
theorem fn21_ok : FnOK Go.Proofs.Try.prog 21 fi21 := ⟨Go.Proofs.Try.f21, Go.Proofs.Try.func21, rfl, rfl, rfl, by kernel_rfl⟩
theorem fn22_ok : FnOK Go.Proofs.Try.prog 22 fi22 := ⟨Go.Proofs.Try.f22, Go.Proofs.Try.func22, rfl, rfl, rfl, by kernel_rfl⟩
theorem fn23_ok : FnOK Go.Proofs.Try.prog 23 fi23 := ⟨Go.Proofs.Try.f23, Go.Proofs.Try.func23, rfl, rfl, rfl, by kernel_rfl⟩
theorem fn24_ok : FnOK Go.Proofs.Try.prog 24 fi24 := ⟨Go.Proofs.Try.f24, Go.Proofs.Try.func24, rfl, rfl, rfl, by kernel_rfl⟩
theorem fn25_ok : FnOK Go.Proofs.Try.prog 25 fi25 := ⟨Go.Proofs.Try.f25, Go.Proofs.Try.func25, rfl, rfl, rfl, by kernel_rfl⟩
theorem fn26_ok : FnOK Go.Proofs.Try.prog 26 fi26 := ⟨Go.Proofs.Try.f26, Go.Proofs.Try.func26, rfl, rfl, rfl, by kernel_rfl⟩
theorem fn27_ok : FnOK Go.Proofs.Try.prog 27 fi27 := ⟨Go.Proofs.Try.f27, Go.Proofs.Try.func27, rfl, rfl, rfl, by kernel_rfl⟩
theorem fn29_ok : FnOK Go.Proofs.Try.prog 29 fi29 := ⟨Go.Proofs.Try.f29, Go.Proofs.Try.func29, rfl, rfl, rfl, by kernel_rfl⟩
theorem fn35_ok : FnOK Go.Proofs.Try.prog 35 fi35 := ⟨Go.Proofs.Try.f35, Go.Proofs.Try.func35, rfl, rfl, rfl, by kernel_rfl⟩
theorem fn36_ok : FnOK Go.Proofs.Try.prog 36 fi36 := ⟨Go.Proofs.Try.f36, Go.Proofs.Try.func36, rfl, rfl, rfl, by kernel_rfl⟩
theorem fn37_ok : FnOK Go.Proofs.Try.prog 37 fi37 := ⟨Go.Proofs.Try.f37, Go.Proofs.Try.func37, rfl, rfl, rfl, by kernel_rfl⟩
theorem fn38_ok : FnOK Go.Proofs.Try.prog 38 fi38 := ⟨Go.Proofs.Try.f38, Go.Proofs.Try.func38, rfl, rfl, rfl, by kernel_rfl⟩
theorem fn39_ok : FnOK Go.Proofs.Try.prog 39 fi39 := ⟨Go.Proofs.Try.f39, Go.Proofs.Try.func39, rfl, rfl, rfl, by kernel_rfl⟩
theorem fn40_ok : FnOK Go.Proofs.Try.prog 40 fi40 := ⟨Go.Proofs.Try.f40, Go.Proofs.Try.func40, rfl, rfl, rfl, by kernel_rfl⟩
theorem fn41_ok : FnOK Go.Proofs.Try.prog 41 fi41 := ⟨Go.Proofs.Try.f41, Go.Proofs.Try.func41, rfl, rfl, rfl, by kernel_rfl⟩
theorem fn42_ok : FnOK Go.Proofs.Try.prog 42 fi42 := ⟨Go.Proofs.Try.f42, Go.Proofs.Try.func42, rfl, rfl, rfl, by kernel_rfl⟩
theorem fn43_ok : FnOK Go.Proofs.Try.prog 43 fi43 := ⟨Go.Proofs.Try.f43, Go.Proofs.Try.func43, rfl, rfl, rfl, by kernel_rfl⟩
theorem fn44_ok : FnOK Go.Proofs.Try.prog 44 fi44 := ⟨Go.Proofs.Try.f44, Go.Proofs.Try.func44, rfl, rfl, rfl, by kernel_rfl⟩
theorem fn45_ok : FnOK Go.Proofs.Try.prog 45 fi45 := ⟨Go.Proofs.Try.f45, Go.Proofs.Try.func45, rfl, rfl, rfl, by kernel_rfl⟩
theorem fn46_ok : FnOK Go.Proofs.Try.prog 46 fi46 := ⟨Go.Proofs.Try.f46, Go.Proofs.Try.func46, rfl, rfl, rfl, by kernel_rfl⟩
theorem fn47_ok : FnOK Go.Proofs.Try.prog 47 fi47 := ⟨Go.Proofs.Try.f47, Go.Proofs.Try.func47, rfl, rfl, rfl, by kernel_rfl⟩
theorem fn48_ok : FnOK Go.Proofs.Try.prog 48 fi48 := ⟨Go.Proofs.Try.f48, Go.Proofs.Try.func48, rfl, rfl, rfl, by kernel_rfl⟩
theorem fn49_ok : FnOK Go.Proofs.Try.prog 49 fi49 := ⟨Go.Proofs.Try.f49, Go.Proofs.Try.func49, rfl, rfl, rfl, by kernel_rfl⟩
theorem fn50_ok : FnOK Go.Proofs.Try.prog 50 fi50 := ⟨Go.Proofs.Try.f50, Go.Proofs.Try.func50, rfl, rfl, rfl, by kernel_rfl⟩
theorem fn51_ok : FnOK Go.Proofs.Try.prog 51 fi51 := ⟨Go.Proofs.Try.f51, Go.Proofs.Try.func51, rfl, rfl, rfl, by kernel_rfl⟩
theorem fn52_ok : FnOK Go.Proofs.Try.prog 52 fi52 := ⟨Go.Proofs.Try.f52, Go.Proofs.Try.func52, rfl, rfl, rfl, by kernel_rfl⟩
theorem fn53_ok : FnOK Go.Proofs.Try.prog 53 fi53 := ⟨Go.Proofs.Try.f53, Go.Proofs.Try.func53, rfl, rfl, rfl, by kernel_rfl⟩
theorem fn55_ok : FnOK Go.Proofs.Try.prog 55 fi55 := ⟨Go.Proofs.Try.f55, Go.Proofs.Try.func55, rfl, rfl, rfl, by kernel_rfl⟩
theorem fn56_ok : FnOK Go.Proofs.Try.prog 56 fi56 := ⟨Go.Proofs.Try.f56, Go.Proofs.Try.func56, rfl, rfl, rfl, by kernel_rfl⟩
theorem fn57_ok : FnOK Go.Proofs.Try.prog 57 fi57 := ⟨Go.Proofs.Try.f57, Go.Proofs.Try.func57, rfl, rfl, rfl, by kernel_rfl⟩
theorem fn58_ok : FnOK Go.Proofs.Try.prog 58 fi58 := ⟨Go.Proofs.Try.f58, Go.Proofs.Try.func58, rfl, rfl, rfl, by kernel_rfl⟩
theorem fn59_ok : FnOK Go.Proofs.Try.prog 59 fi59 := ⟨Go.Proofs.Try.f59, Go.Proofs.Try.func59, rfl, rfl, rfl, by kernel_rfl⟩
theorem fn60_ok : FnOK Go.Proofs.Try.prog 60 fi60 := ⟨Go.Proofs.Try.f60, Go.Proofs.Try.func60, rfl, rfl, rfl, by kernel_rfl⟩
theorem fn61_ok : FnOK Go.Proofs.Try.prog 61 fi61 := ⟨Go.Proofs.Try.f61, Go.Proofs.Try.func61, rfl, rfl, rfl, by kernel_rfl⟩
theorem fn62_ok : FnOK Go.Proofs.Try.prog 62 fi62 := ⟨Go.Proofs.Try.f62, Go.Proofs.Try.func62, rfl, rfl, rfl, by kernel_rfl⟩
theorem fn63_ok : FnOK Go.Proofs.Try.prog 63 fi63 := ⟨Go.Proofs.Try.f63, Go.Proofs.Try.func63, rfl, rfl, rfl, by kernel_rfl⟩
theorem fn64_ok : FnOK Go.Proofs.Try.prog 64 fi64 := ⟨Go.Proofs.Try.f64, Go.Proofs.Try.func64, rfl, rfl, rfl, by kernel_rfl⟩
theorem fn65_ok : FnOK Go.Proofs.Try.prog 65 fi65 := ⟨Go.Proofs.Try.f65, Go.Proofs.Try.func65, rfl, rfl, rfl, by kernel_rfl⟩
theorem fn66_ok : FnOK Go.Proofs.Try.prog 66 fi66 := ⟨Go.Proofs.Try.f66, Go.Proofs.Try.func66, rfl, rfl, rfl, by kernel_rfl⟩
theorem fn67_ok : FnOK Go.Proofs.Try.prog 67 fi67 := ⟨Go.Proofs.Try.f67, Go.Proofs.Try.func67, rfl, rfl, rfl, by kernel_rfl⟩
theorem fn68_ok : FnOK Go.Proofs.Try.prog 68 fi68 := ⟨Go.Proofs.Try.f68, Go.Proofs.Try.func68, rfl, rfl, rfl, by kernel_rfl⟩
theorem fn69_ok : FnOK Go.Proofs.Try.prog 69 fi69 := ⟨Go.Proofs.Try.f69, Go.Proofs.Try.func69, rfl, rfl, rfl, by kernel_rfl⟩
theorem fn70_ok : FnOK Go.Proofs.Try.prog 70 fi70 := ⟨Go.Proofs.Try.f70, Go.Proofs.Try.func70, rfl, rfl, rfl, by kernel_rfl⟩
theorem fn71_ok : FnOK Go.Proofs.Try.prog 71 fi71 := ⟨Go.Proofs.Try.f71, Go.Proofs.Try.func71, rfl, rfl, rfl, by kernel_rfl⟩
theorem fn72_ok : FnOK Go.Proofs.Try.prog 72 fi72 := ⟨Go.Proofs.Try.f72, Go.Proofs.Try.func72, rfl, rfl, rfl, by kernel_rfl⟩
theorem fn73_ok : FnOK Go.Proofs.Try.prog 73 fi73 := ⟨Go.Proofs.Try.f73, Go.Proofs.Try.func73, rfl, rfl, rfl, by kernel_rfl⟩
theorem fn74_ok : FnOK Go.Proofs.Try.prog 74 fi74 := ⟨Go.Proofs.Try.f74, Go.Proofs.Try.func74, rfl, rfl, rfl, by kernel_rfl⟩
theorem fn75_ok : FnOK Go.Proofs.Try.prog 75 fi75 := ⟨Go.Proofs.Try.f75, Go.Proofs.Try.func75, rfl, rfl, rfl, by kernel_rfl⟩
theorem fn76_ok : FnOK Go.Proofs.Try.prog 76 fi76 := ⟨Go.Proofs.Try.f76, Go.Proofs.Try.func76, rfl, rfl, rfl, by kernel_rfl⟩
theorem fn77_ok : FnOK Go.Proofs.Try.prog 77 fi77 := ⟨Go.Proofs.Try.f77, Go.Proofs.Try.func77, rfl, rfl, rfl, by kernel_rfl⟩
theorem fn78_ok : FnOK Go.Proofs.Try.prog 78 fi78 := ⟨Go.Proofs.Try.f78, Go.Proofs.Try.func78, rfl, rfl, rfl, by kernel_rfl⟩
theorem fn79_ok : FnOK Go.Proofs.Try.prog 79 fi79 := ⟨Go.Proofs.Try.f79, Go.Proofs.Try.func79, rfl, rfl, rfl, by kernel_rfl⟩
theorem fn80_ok : FnOK Go.Proofs.Try.prog 80 fi80 := ⟨Go.Proofs.Try.f80, Go.Proofs.Try.func80, rfl, rfl, rfl, by kernel_rfl⟩
theorem fn81_ok : FnOK Go.Proofs.Try.prog 81 fi81 := ⟨Go.Proofs.Try.f81, Go.Proofs.Try.func81, rfl, rfl, rfl, by kernel_rfl⟩
theorem fn82_ok : FnOK Go.Proofs.Try.prog 82 fi82 := ⟨Go.Proofs.Try.f82, Go.Proofs.Try.func82, rfl, rfl, rfl, by kernel_rfl⟩
theorem fn83_ok : FnOK Go.Proofs.Try.prog 83 fi83 := ⟨Go.Proofs.Try.f83, Go.Proofs.Try.func83, rfl, rfl, rfl, by kernel_rfl⟩
theorem fn84_ok : FnOK Go.Proofs.Try.prog 84 fi84 := ⟨Go.Proofs.Try.f84, Go.Proofs.Try.func84, rfl, rfl, rfl, by kernel_rfl⟩
theorem fn85_ok : FnOK Go.Proofs.Try.prog 85 fi85 := ⟨Go.Proofs.Try.f85, Go.Proofs.Try.func85, rfl, rfl, rfl, by kernel_rfl⟩
theorem fns_ok : AllP (FnOK Go.Proofs.Try.prog) fnL := ⟨fn3_ok, fn6_ok, fn7_ok, fn8_ok, fn9_ok, fn10_ok, fn11_ok, fn12_ok, fn18_ok, fn19_ok, fn20_ok, fn21_ok, fn22_ok, fn23_ok, fn24_ok, fn25_ok, fn26_ok, fn27_ok, fn29_ok, fn35_ok, fn36_ok, fn37_ok, fn38_ok, fn39_ok, fn40_ok, fn41_ok, fn42_ok, fn43_ok, fn44_ok, fn45_ok, fn46_ok, fn47_ok, fn48_ok, fn49_ok, fn50_ok, fn51_ok, fn52_ok, fn53_ok, fn55_ok, fn56_ok, fn57_ok, fn58_ok, fn59_ok, fn60_ok, fn61_ok, fn62_ok, fn63_ok, fn64_ok, fn65_ok, fn66_ok, fn67_ok, fn68_ok, fn69_ok, fn70_ok, fn71_ok, fn72_ok, fn73_ok, fn74_ok, fn75_ok, fn76_ok, fn77_ok, fn78_ok, fn79_ok, fn80_ok, fn81_ok, fn82_ok, fn83_ok, fn84_ok, fn85_ok, trivial⟩
theorem mixed : (Go.Proofs.Try.prog).follows .mixedOrders = true := by kernel_rfl
theorem ext_ok (f : FuncId) (args : List Arg) (r : (sigOf f).den) (h : extOf f args = some r) : CallOK Go.Proofs.Try.prog elid sigOf f args r := by
  unfold extOf at h
  cases h
theorem pks_at (f : Nat) : (E idb).pks f = match look f pkL with | some l => l | none => [] := by
  show pksOf f = _
  unfold pksOf
  cases look f pkL <;> rfl
theorem pks_ok : noBlds pkL = true := by kernel_rfl
theorem env_ok : EOK Go.Proofs.Try.prog elid (E idb) := EOK.noB (fun T i h => (tysOk_spec tys_ok).look T i h) (pks := pkL) pks_at pks_ok
/-- What the machine answers, the program answers. -/
theorem lv_ok (k : Nat) : LvOK Go.Proofs.Try.prog elid sigOf (lvl (E idb) k) :=
  levels (E := E idb) env_ok (fun _ _ => rfl) (fun f fi h => fns_ok.look f fi h) (fun f args r _ h => ext_ok f args r h) mixed k

end Go.Proofs.YtjkokaockhecnaaA
