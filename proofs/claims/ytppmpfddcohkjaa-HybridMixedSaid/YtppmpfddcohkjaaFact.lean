/- The program is what the machine is told of it, so that what the machine answers of a call is what the program answers; no condition. -/
import Derived.Test.YtppmpfddcohkjaaExt2
import Derived.Test.YtppmpfddcohkjaaBld4
import Derived.Test.YtppmpfddcohkjaaShelf
import Derived.Test.YtppmpfddcohkjaaEnv
namespace Go.Proofs.YtppmpfddcohkjaaA
open Go
set_option linter.unusedVariables false

def elidF (t : El) : Nat :=
  match t with
  | .int .i64 => 3
  | .bool => 4
  | .int .u8 => 5
  | .str => 9
  | _ => 0
def elid : Elid := ⟨elidF, [], fun _ => True, fun _ _ _ h => h⟩
def Tabs (_ : World) : Prop := True
theorem tabs_ok {W : World} (_ : Tabs W) : TabOK elid W ⟨fun _ _ => .imm, fun _ _ => .slice none 0 0, fun _ => (0, 0)⟩ := ⟨trivial, fun b hb => by cases hb⟩
theorem tys_ok : tysOk Go.Proofs.Try.prog elid tyL = true := by kernel_rfl
theorem fn12_ok : FnOK Go.Proofs.Try.prog 12 fi12 := ⟨Go.Proofs.Try.f12, Go.Proofs.Try.func12, rfl, rfl, rfl, by kernel_rfl⟩
theorem fn13_ok : FnOK Go.Proofs.Try.prog 13 fi13 := ⟨Go.Proofs.Try.f13, Go.Proofs.Try.func13, rfl, rfl, rfl, by kernel_rfl⟩
theorem fn14_ok : FnOK Go.Proofs.Try.prog 14 fi14 := ⟨Go.Proofs.Try.f14, Go.Proofs.Try.func14, rfl, rfl, rfl, by kernel_rfl⟩
theorem fn15_ok : FnOK Go.Proofs.Try.prog 15 fi15 := ⟨Go.Proofs.Try.f15, Go.Proofs.Try.func15, rfl, rfl, rfl, by kernel_rfl⟩
theorem fn16_ok : FnOK Go.Proofs.Try.prog 16 fi16 := ⟨Go.Proofs.Try.f16, Go.Proofs.Try.func16, rfl, rfl, rfl, by kernel_rfl⟩
theorem fn17_ok : FnOK Go.Proofs.Try.prog 17 fi17 := ⟨Go.Proofs.Try.f17, Go.Proofs.Try.func17, rfl, rfl, rfl, by kernel_rfl⟩
theorem fn28_ok : FnOK Go.Proofs.Try.prog 28 fi28 := ⟨Go.Proofs.Try.f28, Go.Proofs.Try.func28, rfl, rfl, rfl, by kernel_rfl⟩
theorem fn35_ok : FnOK Go.Proofs.Try.prog 35 fi35 := ⟨Go.Proofs.Try.f35, Go.Proofs.Try.func35, rfl, rfl, rfl, by kernel_rfl⟩
theorem fn36_ok : FnOK Go.Proofs.Try.prog 36 fi36 := ⟨Go.Proofs.Try.f36, Go.Proofs.Try.func36, rfl, rfl, rfl, by kernel_rfl⟩
theorem fn37_ok : FnOK Go.Proofs.Try.prog 37 fi37 := ⟨Go.Proofs.Try.f37, Go.Proofs.Try.func37, rfl, rfl, rfl, by kernel_rfl⟩
theorem fn38_ok : FnOK Go.Proofs.Try.prog 38 fi38 := ⟨Go.Proofs.Try.f38, Go.Proofs.Try.func38, rfl, rfl, rfl, by kernel_rfl⟩
theorem fn39_ok : FnOK Go.Proofs.Try.prog 39 fi39 := ⟨Go.Proofs.Try.f39, Go.Proofs.Try.func39, rfl, rfl, rfl, by kernel_rfl⟩
theorem fn40_ok : FnOK Go.Proofs.Try.prog 40 fi40 := ⟨Go.Proofs.Try.f40, Go.Proofs.Try.func40, rfl, rfl, rfl, by kernel_rfl⟩
theorem fn41_ok : FnOK Go.Proofs.Try.prog 41 fi41 := ⟨Go.Proofs.Try.f41, Go.Proofs.Try.func41, rfl, rfl, rfl, by kernel_rfl⟩
theorem fn42_ok : FnOK Go.Proofs.Try.prog 42 fi42 := ⟨Go.Proofs.Try.f42, Go.Proofs.Try.func42, rfl, rfl, rfl, by kernel_rfl⟩
theorem fn43_ok : FnOK Go.Proofs.Try.prog 43 fi43 := ⟨Go.Proofs.Try.f43, Go.Proofs.Try.func43, rfl, rfl, rfl, by kernel_rfl⟩
theorem fn50_ok : FnOK Go.Proofs.Try.prog 50 fi50 := ⟨Go.Proofs.Try.f50, Go.Proofs.Try.func50, rfl, rfl, rfl, by kernel_rfl⟩
theorem fn59_ok : FnOK Go.Proofs.Try.prog 59 fi59 := ⟨Go.Proofs.Try.f59, Go.Proofs.Try.func59, rfl, rfl, rfl, by kernel_rfl⟩
theorem fn66_ok : FnOK Go.Proofs.Try.prog 66 fi66 := ⟨Go.Proofs.Try.f66, Go.Proofs.Try.func66, rfl, rfl, rfl, by kernel_rfl⟩
theorem fn67_ok : FnOK Go.Proofs.Try.prog 67 fi67 := ⟨Go.Proofs.Try.f67, Go.Proofs.Try.func67, rfl, rfl, rfl, by kernel_rfl⟩
theorem fn68_ok : FnOK Go.Proofs.Try.prog 68 fi68 := ⟨Go.Proofs.Try.f68, Go.Proofs.Try.func68, rfl, rfl, rfl, by kernel_rfl⟩
theorem fn69_ok : FnOK Go.Proofs.Try.prog 69 fi69 := ⟨Go.Proofs.Try.f69, Go.Proofs.Try.func69, rfl, rfl, rfl, by kernel_rfl⟩
theorem fn71_ok : FnOK Go.Proofs.Try.prog 71 fi71 := ⟨Go.Proofs.Try.f71, Go.Proofs.Try.func71, rfl, rfl, rfl, by kernel_rfl⟩
theorem fn72_ok : FnOK Go.Proofs.Try.prog 72 fi72 := ⟨Go.Proofs.Try.f72, Go.Proofs.Try.func72, rfl, rfl, rfl, by kernel_rfl⟩
theorem fn73_ok : FnOK Go.Proofs.Try.prog 73 fi73 := ⟨Go.Proofs.Try.f73, Go.Proofs.Try.func73, rfl, rfl, rfl, by kernel_rfl⟩
theorem fn74_ok : FnOK Go.Proofs.Try.prog 74 fi74 := ⟨Go.Proofs.Try.f74, Go.Proofs.Try.func74, rfl, rfl, rfl, by kernel_rfl⟩
theorem fn76_ok : FnOK Go.Proofs.Try.prog 76 fi76 := ⟨Go.Proofs.Try.f76, Go.Proofs.Try.func76, rfl, rfl, rfl, by kernel_rfl⟩
theorem fn77_ok : FnOK Go.Proofs.Try.prog 77 fi77 := ⟨Go.Proofs.Try.f77, Go.Proofs.Try.func77, rfl, rfl, rfl, by kernel_rfl⟩
theorem fn78_ok : FnOK Go.Proofs.Try.prog 78 fi78 := ⟨Go.Proofs.Try.f78, Go.Proofs.Try.func78, rfl, rfl, rfl, by kernel_rfl⟩
theorem fn79_ok : FnOK Go.Proofs.Try.prog 79 fi79 := ⟨Go.Proofs.Try.f79, Go.Proofs.Try.func79, rfl, rfl, rfl, by kernel_rfl⟩
theorem fn80_ok : FnOK Go.Proofs.Try.prog 80 fi80 := ⟨Go.Proofs.Try.f80, Go.Proofs.Try.func80, rfl, rfl, rfl, by kernel_rfl⟩
theorem fn81_ok : FnOK Go.Proofs.Try.prog 81 fi81 := ⟨Go.Proofs.Try.f81, Go.Proofs.Try.func81, rfl, rfl, rfl, by kernel_rfl⟩
theorem fn82_ok : FnOK Go.Proofs.Try.prog 82 fi82 := ⟨Go.Proofs.Try.f82, Go.Proofs.Try.func82, rfl, rfl, rfl, by kernel_rfl⟩
theorem fn83_ok : FnOK Go.Proofs.Try.prog 83 fi83 := ⟨Go.Proofs.Try.f83, Go.Proofs.Try.func83, rfl, rfl, rfl, by kernel_rfl⟩
theorem fn84_ok : FnOK Go.Proofs.Try.prog 84 fi84 := ⟨Go.Proofs.Try.f84, Go.Proofs.Try.func84, rfl, rfl, rfl, by kernel_rfl⟩
theorem fn97_ok : FnOK Go.Proofs.Try.prog 97 fi97 := ⟨Go.Proofs.Try.f97, Go.Proofs.Try.func97, rfl, rfl, rfl, by kernel_rfl⟩
theorem fn103_ok : FnOK Go.Proofs.Try.prog 103 fi103 := ⟨Go.Proofs.Try.f103, Go.Proofs.Try.func103, rfl, rfl, rfl, by kernel_rfl⟩
theorem fn111_ok : FnOK Go.Proofs.Try.prog 111 fi111 := ⟨Go.Proofs.Try.f111, Go.Proofs.Try.func111, rfl, rfl, rfl, by kernel_rfl⟩
theorem fn112_ok : FnOK Go.Proofs.Try.prog 112 fi112 := ⟨Go.Proofs.Try.f112, Go.Proofs.Try.func112, rfl, rfl, rfl, by kernel_rfl⟩
theorem fn113_ok : FnOK Go.Proofs.Try.prog 113 fi113 := ⟨Go.Proofs.Try.f113, Go.Proofs.Try.func113, rfl, rfl, rfl, by kernel_rfl⟩
theorem fn115_ok : FnOK Go.Proofs.Try.prog 115 fi115 := ⟨Go.Proofs.Try.f115, Go.Proofs.Try.func115, rfl, rfl, rfl, by kernel_rfl⟩
theorem fn116_ok : FnOK Go.Proofs.Try.prog 116 fi116 := ⟨Go.Proofs.Try.f116, Go.Proofs.Try.func116, rfl, rfl, rfl, by kernel_rfl⟩
theorem fn117_ok : FnOK Go.Proofs.Try.prog 117 fi117 := ⟨Go.Proofs.Try.f117, Go.Proofs.Try.func117, rfl, rfl, rfl, by kernel_rfl⟩
theorem fn118_ok : FnOK Go.Proofs.Try.prog 118 fi118 := ⟨Go.Proofs.Try.f118, Go.Proofs.Try.func118, rfl, rfl, rfl, by kernel_rfl⟩
theorem fn119_ok : FnOK Go.Proofs.Try.prog 119 fi119 := ⟨Go.Proofs.Try.f119, Go.Proofs.Try.func119, rfl, rfl, rfl, by kernel_rfl⟩
theorem fn126_ok : FnOK Go.Proofs.Try.prog 126 fi126 := ⟨Go.Proofs.Try.f126, Go.Proofs.Try.func126, rfl, rfl, rfl, by kernel_rfl⟩
theorem fn132_ok : FnOK Go.Proofs.Try.prog 132 fi132 := ⟨Go.Proofs.Try.f132, Go.Proofs.Try.func132, rfl, rfl, rfl, by kernel_rfl⟩
theorem fn134_ok : FnOK Go.Proofs.Try.prog 134 fi134 := ⟨Go.Proofs.Try.f134, Go.Proofs.Try.func134, rfl, rfl, rfl, by kernel_rfl⟩
theorem fn136_ok : FnOK Go.Proofs.Try.prog 136 fi136 := ⟨Go.Proofs.Try.f136, Go.Proofs.Try.func136, rfl, rfl, rfl, by kernel_rfl⟩
theorem fns_ok : AllP (FnOK Go.Proofs.Try.prog) fnL := ⟨fn12_ok, fn13_ok, fn14_ok, fn15_ok, fn16_ok, fn17_ok, fn28_ok, fn35_ok, fn36_ok, fn37_ok, fn38_ok, fn39_ok, fn40_ok, fn41_ok, fn42_ok, fn43_ok, fn50_ok, fn59_ok, fn66_ok, fn67_ok, fn68_ok, fn69_ok, fn71_ok, fn72_ok, fn73_ok, fn74_ok, fn76_ok, fn77_ok, fn78_ok, fn79_ok, fn80_ok, fn81_ok, fn82_ok, fn83_ok, fn84_ok, fn97_ok, fn103_ok, fn111_ok, fn112_ok, fn113_ok, fn115_ok, fn116_ok, fn117_ok, fn118_ok, fn119_ok, fn126_ok, fn132_ok, fn134_ok, fn136_ok, trivial⟩
theorem mixed : (Go.Proofs.Try.prog).follows .mixedOrders = true := by kernel_rfl
theorem ext_ok (f : FuncId) (args : List Arg) (r : (sigOf f).den) (h : extOf f args = some r) : CallOK Go.Proofs.Try.prog elid sigOf f args r := by
  unfold extOf at h
  cases h
theorem pks_at (f : Nat) : (E idb).pks f = match look f pkL with | some l => l | none => [] := by
  show pksOf f = _
  unfold pksOf
  cases look f pkL <;> rfl
theorem pks_ok : bldsOk 70 75 95 5 pkL = true := by kernel_rfl
theorem write_fn : BwOK Go.Proofs.Try.prog 70 95 (elid (.int .u8)) := write_ok Go.Proofs.Try.laysB166 Go.Proofs.Try.Builder_Extra_B ⟨Go.Proofs.Try.f70, Go.Proofs.Try.func70, rfl, by kernel_rfl⟩
theorem string_fn : BrOK Go.Proofs.Try.prog 75 95 5 := string_ok Go.Proofs.Try.laysB169 Go.Proofs.Try.Builder_Extra_B ⟨Go.Proofs.Try.f75, Go.Proofs.Try.func75, rfl, by kernel_rfl⟩
theorem env_ok : EOK Go.Proofs.Try.prog elid (E idb) := EOK.bld (fun T i h => (tysOk_spec tys_ok).look T i h) (pks := pkL) pks_at pks_ok write_fn string_fn rfl
/-- What the machine answers, the program answers. -/
theorem lv_ok (k : Nat) : LvOK Go.Proofs.Try.prog elid sigOf (lvl (E idb) k) :=
  levels (E := E idb) env_ok (fun _ _ => rfl) (fun f fi h => fns_ok.look f fi h) (fun f args r _ h => ext_ok f args r h) mixed k

end Go.Proofs.YtppmpfddcohkjaaA
