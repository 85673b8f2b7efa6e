/- The program is what the machine is told of it, so that what the machine answers of a call is what the program answers; no condition. -/
import Derived.Test.YtppmpfddcohkjaaExt2
import Derived.Test.YtppmpfddcohkjaaEnv
namespace Go.Proofs.YtppmpfddcohkjaaA
open Go
set_option linter.unusedVariables false

def elidF (t : El) : Nat :=
  match t with
  | .int .i64 => 3
  | .bool => 4
  | .int .u8 => 5
  | .str => 9
  | .arr => 27
  | .node => 35
  | .list .str => 38
  | _ => 0
def elid : Elid := ⟨elidF, [], fun _ => True, fun _ _ _ h => h⟩
def Tabs (_ : World) : Prop := True
theorem tabs_ok {W : World} (_ : Tabs W) : TabOK elid W ⟨fun _ _ => .imm, fun _ _ => .slice none 0 0, fun _ => (0, 0)⟩ := ⟨trivial, fun b hb => by cases hb⟩
theorem tys_ok : tysOk Go.Proofs.Try.prog elid tyL = true := by kernel_rfl
theorem fn4_ok : FnOK Go.Proofs.Try.prog 4 fi4 := ⟨Go.Proofs.Try.f4, Go.Proofs.Try.func4, rfl, rfl, rfl, by kernel_rfl⟩
theorem fn19_ok : FnOK Go.Proofs.Try.prog 19 fi19 := ⟨Go.Proofs.Try.f19, Go.Proofs.Try.func19, rfl, rfl, rfl, by kernel_rfl⟩
theorem fn20_ok : FnOK Go.Proofs.Try.prog 20 fi20 := ⟨Go.Proofs.Try.f20, Go.Proofs.Try.func20, rfl, rfl, rfl, by kernel_rfl⟩
theorem fn21_ok : FnOK Go.Proofs.Try.prog 21 fi21 := ⟨Go.Proofs.Try.f21, Go.Proofs.Try.func21, rfl, rfl, rfl, by kernel_rfl⟩
theorem fn24_ok : FnOK Go.Proofs.Try.prog 24 fi24 := ⟨Go.Proofs.Try.f24, Go.Proofs.Try.func24, rfl, rfl, rfl, by kernel_rfl⟩
theorem fn25_ok : FnOK Go.Proofs.Try.prog 25 fi25 := ⟨Go.Proofs.Try.f25, Go.Proofs.Try.func25, rfl, rfl, rfl, by kernel_rfl⟩
theorem fn26_ok : FnOK Go.Proofs.Try.prog 26 fi26 := ⟨Go.Proofs.Try.f26, Go.Proofs.Try.func26, rfl, rfl, rfl, by kernel_rfl⟩
theorem fn27_ok : FnOK Go.Proofs.Try.prog 27 fi27 := ⟨Go.Proofs.Try.f27, Go.Proofs.Try.func27, rfl, rfl, rfl, by kernel_rfl⟩
theorem fn28_ok : FnOK Go.Proofs.Try.prog 28 fi28 := ⟨Go.Proofs.Try.f28, Go.Proofs.Try.func28, rfl, rfl, rfl, by kernel_rfl⟩
theorem fn29_ok : FnOK Go.Proofs.Try.prog 29 fi29 := ⟨Go.Proofs.Try.f29, Go.Proofs.Try.func29, rfl, rfl, rfl, by kernel_rfl⟩
theorem fn44_ok : FnOK Go.Proofs.Try.prog 44 fi44 := ⟨Go.Proofs.Try.f44, Go.Proofs.Try.func44, rfl, rfl, rfl, by kernel_rfl⟩
theorem fn45_ok : FnOK Go.Proofs.Try.prog 45 fi45 := ⟨Go.Proofs.Try.f45, Go.Proofs.Try.func45, rfl, rfl, rfl, by kernel_rfl⟩
theorem fn46_ok : FnOK Go.Proofs.Try.prog 46 fi46 := ⟨Go.Proofs.Try.f46, Go.Proofs.Try.func46, rfl, rfl, rfl, by kernel_rfl⟩
theorem fn47_ok : FnOK Go.Proofs.Try.prog 47 fi47 := ⟨Go.Proofs.Try.f47, Go.Proofs.Try.func47, rfl, rfl, rfl, by kernel_rfl⟩
theorem fn48_ok : FnOK Go.Proofs.Try.prog 48 fi48 := ⟨Go.Proofs.Try.f48, Go.Proofs.Try.func48, rfl, rfl, rfl, by kernel_rfl⟩
theorem fn49_ok : FnOK Go.Proofs.Try.prog 49 fi49 := ⟨Go.Proofs.Try.f49, Go.Proofs.Try.func49, rfl, rfl, rfl, by kernel_rfl⟩
theorem fn50_ok : FnOK Go.Proofs.Try.prog 50 fi50 := ⟨Go.Proofs.Try.f50, Go.Proofs.Try.func50, rfl, rfl, rfl, by kernel_rfl⟩
theorem fn51_ok : FnOK Go.Proofs.Try.prog 51 fi51 := ⟨Go.Proofs.Try.f51, Go.Proofs.Try.func51, rfl, rfl, rfl, by kernel_rfl⟩
theorem fn52_ok : FnOK Go.Proofs.Try.prog 52 fi52 := ⟨Go.Proofs.Try.f52, Go.Proofs.Try.func52, rfl, rfl, rfl, by kernel_rfl⟩
theorem fn53_ok : FnOK Go.Proofs.Try.prog 53 fi53 := ⟨Go.Proofs.Try.f53, Go.Proofs.Try.func53, rfl, rfl, rfl, by kernel_rfl⟩
theorem fn54_ok : FnOK Go.Proofs.Try.prog 54 fi54 := ⟨Go.Proofs.Try.f54, Go.Proofs.Try.func54, rfl, rfl, rfl, by kernel_rfl⟩
theorem fn56_ok : FnOK Go.Proofs.Try.prog 56 fi56 := ⟨Go.Proofs.Try.f56, Go.Proofs.Try.func56, rfl, rfl, rfl, by kernel_rfl⟩
theorem fn57_ok : FnOK Go.Proofs.Try.prog 57 fi57 := ⟨Go.Proofs.Try.f57, Go.Proofs.Try.func57, rfl, rfl, rfl, by kernel_rfl⟩
theorem fn58_ok : FnOK Go.Proofs.Try.prog 58 fi58 := ⟨Go.Proofs.Try.f58, Go.Proofs.Try.func58, rfl, rfl, rfl, by kernel_rfl⟩
theorem fn59_ok : FnOK Go.Proofs.Try.prog 59 fi59 := ⟨Go.Proofs.Try.f59, Go.Proofs.Try.func59, rfl, rfl, rfl, by kernel_rfl⟩
theorem fn60_ok : FnOK Go.Proofs.Try.prog 60 fi60 := ⟨Go.Proofs.Try.f60, Go.Proofs.Try.func60, rfl, rfl, rfl, by kernel_rfl⟩
theorem fn72_ok : FnOK Go.Proofs.Try.prog 72 fi72 := ⟨Go.Proofs.Try.f72, Go.Proofs.Try.func72, rfl, rfl, rfl, by kernel_rfl⟩
theorem fn83_ok : FnOK Go.Proofs.Try.prog 83 fi83 := ⟨Go.Proofs.Try.f83, Go.Proofs.Try.func83, rfl, rfl, rfl, by kernel_rfl⟩
theorem fn84_ok : FnOK Go.Proofs.Try.prog 84 fi84 := ⟨Go.Proofs.Try.f84, Go.Proofs.Try.func84, rfl, rfl, rfl, by kernel_rfl⟩
theorem fn85_ok : FnOK Go.Proofs.Try.prog 85 fi85 := ⟨Go.Proofs.Try.f85, Go.Proofs.Try.func85, rfl, rfl, rfl, by kernel_rfl⟩
theorem fn86_ok : FnOK Go.Proofs.Try.prog 86 fi86 := ⟨Go.Proofs.Try.f86, Go.Proofs.Try.func86, rfl, rfl, rfl, by kernel_rfl⟩
theorem fn87_ok : FnOK Go.Proofs.Try.prog 87 fi87 := ⟨Go.Proofs.Try.f87, Go.Proofs.Try.func87, rfl, rfl, rfl, by kernel_rfl⟩
theorem fn88_ok : FnOK Go.Proofs.Try.prog 88 fi88 := ⟨Go.Proofs.Try.f88, Go.Proofs.Try.func88, rfl, rfl, rfl, by kernel_rfl⟩
theorem fn89_ok : FnOK Go.Proofs.Try.prog 89 fi89 := ⟨Go.Proofs.Try.f89, Go.Proofs.Try.func89, rfl, rfl, rfl, by kernel_rfl⟩
theorem fn90_ok : FnOK Go.Proofs.Try.prog 90 fi90 := ⟨Go.Proofs.Try.f90, Go.Proofs.Try.func90, rfl, rfl, rfl, by kernel_rfl⟩
theorem fn91_ok : FnOK Go.Proofs.Try.prog 91 fi91 := ⟨Go.Proofs.Try.f91, Go.Proofs.Try.func91, rfl, rfl, rfl, by kernel_rfl⟩
theorem fn92_ok : FnOK Go.Proofs.Try.prog 92 fi92 := ⟨Go.Proofs.Try.f92, Go.Proofs.Try.func92, rfl, rfl, rfl, by kernel_rfl⟩
theorem fn93_ok : FnOK Go.Proofs.Try.prog 93 fi93 := ⟨Go.Proofs.Try.f93, Go.Proofs.Try.func93, rfl, rfl, rfl, by kernel_rfl⟩
theorem fn94_ok : FnOK Go.Proofs.Try.prog 94 fi94 := ⟨Go.Proofs.Try.f94, Go.Proofs.Try.func94, rfl, rfl, rfl, by kernel_rfl⟩
theorem fn95_ok : FnOK Go.Proofs.Try.prog 95 fi95 := ⟨Go.Proofs.Try.f95, Go.Proofs.Try.func95, rfl, rfl, rfl, by kernel_rfl⟩
theorem fn96_ok : FnOK Go.Proofs.Try.prog 96 fi96 := ⟨Go.Proofs.Try.f96, Go.Proofs.Try.func96, rfl, rfl, rfl, by kernel_rfl⟩
theorem fn97_ok : FnOK Go.Proofs.Try.prog 97 fi97 := ⟨Go.Proofs.Try.f97, Go.Proofs.Try.func97, rfl, rfl, rfl, by kernel_rfl⟩
theorem fn98_ok : FnOK Go.Proofs.Try.prog 98 fi98 := ⟨Go.Proofs.Try.f98, Go.Proofs.Try.func98, rfl, rfl, rfl, by kernel_rfl⟩
theorem fn99_ok : FnOK Go.Proofs.Try.prog 99 fi99 := ⟨Go.Proofs.Try.f99, Go.Proofs.Try.func99, rfl, rfl, rfl, by kernel_rfl⟩
theorem fn100_ok : FnOK Go.Proofs.Try.prog 100 fi100 := ⟨Go.Proofs.Try.f100, Go.Proofs.Try.func100, rfl, rfl, rfl, by kernel_rfl⟩
theorem fn101_ok : FnOK Go.Proofs.Try.prog 101 fi101 := ⟨Go.Proofs.Try.f101, Go.Proofs.Try.func101, rfl, rfl, rfl, by kernel_rfl⟩
theorem fn102_ok : FnOK Go.Proofs.Try.prog 102 fi102 := ⟨Go.Proofs.Try.f102, Go.Proofs.Try.func102, rfl, rfl, rfl, by kernel_rfl⟩
theorem fn103_ok : FnOK Go.Proofs.Try.prog 103 fi103 := ⟨Go.Proofs.Try.f103, Go.Proofs.Try.func103, rfl, rfl, rfl, by kernel_rfl⟩
theorem fn104_ok : FnOK Go.Proofs.Try.prog 104 fi104 := ⟨Go.Proofs.Try.f104, Go.Proofs.Try.func104, rfl, rfl, rfl, by kernel_rfl⟩
theorem fn105_ok : FnOK Go.Proofs.Try.prog 105 fi105 := ⟨Go.Proofs.Try.f105, Go.Proofs.Try.func105, rfl, rfl, rfl, by kernel_rfl⟩
theorem fn106_ok : FnOK Go.Proofs.Try.prog 106 fi106 := ⟨Go.Proofs.Try.f106, Go.Proofs.Try.func106, rfl, rfl, rfl, by kernel_rfl⟩
theorem fn107_ok : FnOK Go.Proofs.Try.prog 107 fi107 := ⟨Go.Proofs.Try.f107, Go.Proofs.Try.func107, rfl, rfl, rfl, by kernel_rfl⟩
theorem fn108_ok : FnOK Go.Proofs.Try.prog 108 fi108 := ⟨Go.Proofs.Try.f108, Go.Proofs.Try.func108, rfl, rfl, rfl, by kernel_rfl⟩
theorem fn109_ok : FnOK Go.Proofs.Try.prog 109 fi109 := ⟨Go.Proofs.Try.f109, Go.Proofs.Try.func109, rfl, rfl, rfl, by kernel_rfl⟩
theorem fn113_ok : FnOK Go.Proofs.Try.prog 113 fi113 := ⟨Go.Proofs.Try.f113, Go.Proofs.Try.func113, rfl, rfl, rfl, by kernel_rfl⟩
theorem fn116_ok : FnOK Go.Proofs.Try.prog 116 fi116 := ⟨Go.Proofs.Try.f116, Go.Proofs.Try.func116, rfl, rfl, rfl, by kernel_rfl⟩
theorem fn119_ok : FnOK Go.Proofs.Try.prog 119 fi119 := ⟨Go.Proofs.Try.f119, Go.Proofs.Try.func119, rfl, rfl, rfl, by kernel_rfl⟩
theorem fn120_ok : FnOK Go.Proofs.Try.prog 120 fi120 := ⟨Go.Proofs.Try.f120, Go.Proofs.Try.func120, rfl, rfl, rfl, by kernel_rfl⟩
theorem fn121_ok : FnOK Go.Proofs.Try.prog 121 fi121 := ⟨Go.Proofs.Try.f121, Go.Proofs.Try.func121, rfl, rfl, rfl, by kernel_rfl⟩
theorem fn122_ok : FnOK Go.Proofs.Try.prog 122 fi122 := ⟨Go.Proofs.Try.f122, Go.Proofs.Try.func122, rfl, rfl, rfl, by kernel_rfl⟩
theorem fn123_ok : FnOK Go.Proofs.Try.prog 123 fi123 := ⟨Go.Proofs.Try.f123, Go.Proofs.Try.func123, rfl, rfl, rfl, by kernel_rfl⟩
theorem fn124_ok : FnOK Go.Proofs.Try.prog 124 fi124 := ⟨Go.Proofs.Try.f124, Go.Proofs.Try.func124, rfl, rfl, rfl, by kernel_rfl⟩
theorem fn125_ok : FnOK Go.Proofs.Try.prog 125 fi125 := ⟨Go.Proofs.Try.f125, Go.Proofs.Try.func125, rfl, rfl, rfl, by kernel_rfl⟩
theorem fn126_ok : FnOK Go.Proofs.Try.prog 126 fi126 := ⟨Go.Proofs.Try.f126, Go.Proofs.Try.func126, rfl, rfl, rfl, by kernel_rfl⟩
theorem fn127_ok : FnOK Go.Proofs.Try.prog 127 fi127 := ⟨Go.Proofs.Try.f127, Go.Proofs.Try.func127, rfl, rfl, rfl, by kernel_rfl⟩
theorem fn128_ok : FnOK Go.Proofs.Try.prog 128 fi128 := ⟨Go.Proofs.Try.f128, Go.Proofs.Try.func128, rfl, rfl, rfl, by kernel_rfl⟩
theorem fn129_ok : FnOK Go.Proofs.Try.prog 129 fi129 := ⟨Go.Proofs.Try.f129, Go.Proofs.Try.func129, rfl, rfl, rfl, by kernel_rfl⟩
theorem fn130_ok : FnOK Go.Proofs.Try.prog 130 fi130 := ⟨Go.Proofs.Try.f130, Go.Proofs.Try.func130, rfl, rfl, rfl, by kernel_rfl⟩
theorem fn131_ok : FnOK Go.Proofs.Try.prog 131 fi131 := ⟨Go.Proofs.Try.f131, Go.Proofs.Try.func131, rfl, rfl, rfl, by kernel_rfl⟩
theorem fns_ok : AllP (FnOK Go.Proofs.Try.prog) fnL := ⟨fn4_ok, fn19_ok, fn20_ok, fn21_ok, fn24_ok, fn25_ok, fn26_ok, fn27_ok, fn28_ok, fn29_ok, fn44_ok, fn45_ok, fn46_ok, fn47_ok, fn48_ok, fn49_ok, fn50_ok, fn51_ok, fn52_ok, fn53_ok, fn54_ok, fn56_ok, fn57_ok, fn58_ok, fn59_ok, fn60_ok, fn72_ok, fn83_ok, fn84_ok, fn85_ok, fn86_ok, fn87_ok, fn88_ok, fn89_ok, fn90_ok, fn91_ok, fn92_ok, fn93_ok, fn94_ok, fn95_ok, fn96_ok, fn97_ok, fn98_ok, fn99_ok, fn100_ok, fn101_ok, fn102_ok, fn103_ok, fn104_ok, fn105_ok, fn106_ok, fn107_ok, fn108_ok, fn109_ok, fn113_ok, fn116_ok, fn119_ok, fn120_ok, fn121_ok, fn122_ok, fn123_ok, fn124_ok, fn125_ok, fn126_ok, fn127_ok, fn128_ok, fn129_ok, fn130_ok, fn131_ok, trivial⟩
theorem mixed : (Go.Proofs.Try.prog).follows .mixedOrders = true := by kernel_rfl
theorem ext_ok (f : FuncId) (args : List Arg) (r : (sigOf f).den) (h : extOf f args = some r) : CallOK Go.Proofs.Try.prog elid sigOf f args r := by
  unfold extOf at h
  cases h
theorem pks_at (f : Nat) : (E idb).pks f = match look f pkL with | some l => l | none => [] := by
  show pksOf f = _
  unfold pksOf
  cases look f pkL <;> rfl
theorem pks_ok : noBlds pkL = true := by kernel_rfl
theorem env_ok : EOK Go.Proofs.Try.prog elid (E idb) := EOK.noB (fun T i h => (tysOk_spec tys_ok).look T i h) (pks := pkL) pks_at pks_ok
/-- What the machine answers, the program answers. -/
theorem lv_ok (k : Nat) : LvOK Go.Proofs.Try.prog elid sigOf (lvl (E idb) k) :=
  levels (E := E idb) env_ok (fun _ _ => rfl) (fun f fi h => fns_ok.look f fi h) (fun f args r _ h => ext_ok f args r h) mixed k

end Go.Proofs.YtppmpfddcohkjaaA
