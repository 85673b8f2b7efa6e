/- The program is what the machine is told of it, so that what the machine answers of a call is what the program answers; no condition. -/
import Derived.Test.YtjkokaockhecnaaGreatDoorExt3
import Derived.Test.YtjkokaockhecnaaGreatDoorBld4
import Derived.Test.YtjkokaockhecnaaGreatDoorShelf
import Derived.Test.YtjkokaockhecnaaGreatDoorEnv
namespace Go.Proofs.YtjkokaockhecnaaGreatDoorA
open Go
set_option linter.unusedVariables false

def elidF (t : El) : Nat :=
  match t with
  | .int .i64 => 3
  | .bool => 4
  | .int .u8 => 5
  | .str => 9
  | .node => 58
  | _ => 0
/-- What the library reads of its variables. -/
def Tabs (w : World) : Prop := SentIs Go.Proofs.Tryz.prog w "strconv.ErrSyntax" ∧ SentIs Go.Proofs.Tryz.prog w "strconv.ErrRange" ∧ Lib.TabIs Go.Proofs.Tryz.prog w "internal/strconv.uint64pow10" .u64 Lib.pow10Tab ∧ IntIs Go.Proofs.Tryz.prog w "internal/bytealg.MaxLen"
theorem glob0 : (Go.Proofs.Tryz.prog).globalNamed "strconv.ErrSyntax" = some 0 := by kernel_rfl
theorem glob1 : (Go.Proofs.Tryz.prog).globalNamed "strconv.ErrRange" = some 1 := by kernel_rfl
theorem glob2 : (Go.Proofs.Tryz.prog).globalNamed "internal/strconv.uint64pow10" = some 2 := by kernel_rfl
theorem glob3 : (Go.Proofs.Tryz.prog).globalNamed "internal/bytealg.MaxLen" = some 3 := by kernel_rfl
def elid : Elid := ⟨elidF, [0, 1, 2, 3], Tabs, fun w w' q h => ⟨sent_stable glob0 (q 0 (by decide)) h.1, sent_stable glob1 (q 1 (by decide)) h.2.1, tab_stable glob2 (q 2 (by decide)) h.2.2.1, int_stable glob3 (q 3 (by decide)) h.2.2.2⟩⟩
theorem tabs_ok {W : World} (h : Tabs W) : TabOK elid W ⟨fun _ _ => .imm, fun _ _ => .slice none 0 0, fun _ => (0, 0)⟩ := by
  refine ⟨h, fun b hb => ⟨?_, fun _ => rfl⟩⟩
  have hb' : b ∈ [0, 1, 2, 3] := hb
  simp only [List.mem_cons, List.not_mem_nil, or_false] at hb'
  rcases hb' with e | e | e | e
  · rw [e]; exact sent_lt glob0 h.1
  · rw [e]; exact sent_lt glob1 h.2.1
  · rw [e]; exact tab_lt glob2 h.2.2.1
  · rw [e]; exact int_lt glob3 h.2.2.2
theorem tys_ok : tysOk Go.Proofs.Tryz.prog elid tyL = true := by kernel_rfl
theorem fn7_ok : FnOK Go.Proofs.Tryz.prog 7 fi7 := ⟨Go.Proofs.Tryz.f7, Go.Proofs.Tryz.func7, rfl, rfl, rfl, by kernel_rfl⟩
theorem fn8_ok : FnOK Go.Proofs.Tryz.prog 8 fi8 := ⟨Go.Proofs.Tryz.f8, Go.Proofs.Tryz.func8, rfl, rfl, rfl, by kernel_rfl⟩
theorem fn9_ok : FnOK Go.Proofs.Tryz.prog 9 fi9 := ⟨Go.Proofs.Tryz.f9, Go.Proofs.Tryz.func9, rfl, rfl, rfl, by kernel_rfl⟩
theorem fn11_ok : FnOK Go.Proofs.Tryz.prog 11 fi11 := ⟨Go.Proofs.Tryz.f11, Go.Proofs.Tryz.func11, rfl, rfl, rfl, by kernel_rfl⟩
theorem fn13_ok : FnOK Go.Proofs.Tryz.prog 13 fi13 := ⟨Go.Proofs.Tryz.f13, Go.Proofs.Tryz.func13, rfl, rfl, rfl, by kernel_rfl⟩
theorem fn20_ok : FnOK Go.Proofs.Tryz.prog 20 fi20 := ⟨Go.Proofs.Tryz.f20, Go.Proofs.Tryz.func20, rfl, rfl, rfl, by kernel_rfl⟩
theorem fn22_ok : FnOK Go.Proofs.Tryz.prog 22 fi22 := ⟨Go.Proofs.Tryz.f22, Go.Proofs.Tryz.func22, rfl, rfl, rfl, by kernel_rfl⟩
theorem fn24_ok : FnOK Go.Proofs.Tryz.prog 24 fi24 := ⟨Go.Proofs.Tryz.f24, Go.Proofs.Tryz.func24, rfl, rfl, rfl, by kernel_rfl⟩
theorem fn26_ok : FnOK Go.Proofs.Tryz.prog 26 fi26 := ⟨Go.Proofs.Tryz.f26, Go.Proofs.Tryz.func26, rfl, rfl, rfl, by kernel_rfl⟩
theorem fn28_ok : FnOK Go.Proofs.Tryz.prog 28 fi28 := ⟨Go.Proofs.Tryz.f28, Go.Proofs.Tryz.func28, rfl, rfl, rfl, by kernel_rfl⟩
theorem fn29_ok : FnOK Go.Proofs.Tryz.prog 29 fi29 := ⟨Go.Proofs.Tryz.f29, Go.Proofs.Tryz.func29, rfl, rfl, rfl, by kernel_rfl⟩
theorem fn30_ok : FnOK Go.Proofs.Tryz.prog 30 fi30 := ⟨Go.Proofs.Tryz.f30, Go.Proofs.Tryz.func30, rfl, rfl, rfl, by kernel_rfl⟩
theorem fn31_ok : FnOK Go.Proofs.Tryz.prog 31 fi31 := ⟨Go.Proofs.Tryz.f31, Go.Proofs.Tryz.func31, rfl, rfl, rfl, by kernel_rfl⟩
theorem fn32_ok : FnOK Go.Proofs.Tryz.prog 32 fi32 := ⟨Go.Proofs.Tryz.f32, Go.Proofs.Tryz.func32, rfl, rfl, rfl, by kernel_rfl⟩
theorem fn34_ok : FnOK Go.Proofs.Tryz.prog 34 fi34 := ⟨Go.Proofs.Tryz.f34, Go.Proofs.Tryz.func34, rfl, rfl, rfl, by kernel_rfl⟩
theorem fn36_ok : FnOK Go.Proofs.Tryz.prog 36 fi36 := ⟨Go.Proofs.Tryz.f36, Go.Proofs.Tryz.func36, rfl, rfl, rfl, by kernel_rfl⟩
theorem fn38_ok : FnOK Go.Proofs.Tryz.prog 38 fi38 := ⟨Go.Proofs.Tryz.f38, Go.Proofs.Tryz.func38, rfl, rfl, rfl, by kernel_rfl⟩
theorem fn41_ok : FnOK Go.Proofs.Tryz.prog 41 fi41 := ⟨Go.Proofs.Tryz.f41, Go.Proofs.Tryz.func41, rfl, rfl, rfl, by kernel_rfl⟩
theorem fn46_ok : FnOK Go.Proofs.Tryz.prog 46 fi46 := ⟨Go.Proofs.Tryz.f46, Go.Proofs.Tryz.func46, rfl, rfl, rfl, by kernel_rfl⟩
theorem fn47_ok : FnOK Go.Proofs.Tryz.prog 47 fi47 := ⟨Go.Proofs.Tryz.f47, Go.Proofs.Tryz.func47, rfl, rfl, rfl, by kernel_rfl⟩
theorem fn48_ok : FnOK Go.Proofs.Tryz.prog 48 fi48 := ⟨Go.Proofs.Tryz.f48, Go.Proofs.Tryz.func48, rfl, rfl, rfl, by kernel_rfl⟩
theorem fn52_ok : FnOK Go.Proofs.Tryz.prog 52 fi52 := ⟨Go.Proofs.Tryz.f52, Go.Proofs.Tryz.func52, rfl, rfl, rfl, by kernel_rfl⟩
theorem fn53_ok : FnOK Go.Proofs.Tryz.prog 53 fi53 := ⟨Go.Proofs.Tryz.f53, Go.Proofs.Tryz.func53, rfl, rfl, rfl, by kernel_rfl⟩
theorem fn54_ok : FnOK Go.Proofs.Tryz.prog 54 fi54 := ⟨Go.Proofs.Tryz.f54, Go.Proofs.Tryz.func54, rfl, rfl, rfl, by kernel_rfl⟩
theorem fn56_ok : FnOK Go.Proofs.Tryz.prog 56 fi56 := ⟨Go.Proofs.Tryz.f56, Go.Proofs.Tryz.func56, rfl, rfl, rfl, by kernel_rfl⟩
theorem fn57_ok : FnOK Go.Proofs.Tryz.prog 57 fi57 := ⟨Go.Proofs.Tryz.f57, Go.Proofs.Tryz.func57, rfl, rfl, rfl, by kernel_rfl⟩
theorem fn58_ok : FnOK Go.Proofs.Tryz.prog 58 fi58 := ⟨Go.Proofs.Tryz.f58, Go.Proofs.Tryz.func58, rfl, rfl, rfl, by kernel_rfl⟩
theorem fn60_ok : FnOK Go.Proofs.Tryz.prog 60 fi60 := ⟨Go.Proofs.Tryz.f60, Go.Proofs.Tryz.func60, rfl, rfl, rfl, by kernel_rfl⟩
theorem fn64_ok : FnOK Go.Proofs.Tryz.prog 64 fi64 := ⟨Go.Proofs.Tryz.f64, Go.Proofs.Tryz.func64, rfl, rfl, rfl, by kernel_rfl⟩
theorem fn65_ok : FnOK Go.Proofs.Tryz.prog 65 fi65 := ⟨Go.Proofs.Tryz.f65, Go.Proofs.Tryz.func65, rfl, rfl, rfl, by kernel_rfl⟩
theorem fn66_ok : FnOK Go.Proofs.Tryz.prog 66 fi66 := ⟨Go.Proofs.Tryz.f66, Go.Proofs.Tryz.func66, rfl, rfl, rfl, by kernel_rfl⟩
theorem fn67_ok : FnOK Go.Proofs.Tryz.prog 67 fi67 := ⟨Go.Proofs.Tryz.f67, Go.Proofs.Tryz.func67, rfl, rfl, rfl, by kernel_rfl⟩
theorem fn68_ok : FnOK Go.Proofs.Tryz.prog 68 fi68 := ⟨Go.Proofs.Tryz.f68, Go.Proofs.Tryz.func68, rfl, rfl, rfl, by kernel_rfl⟩
theorem fn69_ok : FnOK Go.Proofs.Tryz.prog 69 fi69 := ⟨Go.Proofs.Tryz.f69, Go.Proofs.Tryz.func69, rfl, rfl, rfl, by kernel_rfl⟩
theorem fn70_ok : FnOK Go.Proofs.Tryz.prog 70 fi70 := ⟨Go.Proofs.Tryz.f70, Go.Proofs.Tryz.func70, rfl, rfl, rfl, by kernel_rfl⟩
theorem fn71_ok : FnOK Go.Proofs.Tryz.prog 71 fi71 := ⟨Go.Proofs.Tryz.f71, Go.Proofs.Tryz.func71, rfl, rfl, rfl, by kernel_rfl⟩
theorem fn72_ok : FnOK Go.Proofs.Tryz.prog 72 fi72 := ⟨Go.Proofs.Tryz.f72, Go.Proofs.Tryz.func72, rfl, rfl, rfl, by kernel_rfl⟩
theorem fn76_ok : FnOK Go.Proofs.Tryz.prog 76 fi76 := ⟨Go.Proofs.Tryz.f76, Go.Proofs.Tryz.func76, rfl, rfl, rfl, by kernel_rfl⟩
theorem fn78_ok : FnOK Go.Proofs.Tryz.prog 78 fi78 := ⟨Go.Proofs.Tryz.f78, Go.Proofs.Tryz.func78, rfl, rfl, rfl, by kernel_rfl⟩
theorem fn80_ok : FnOK Go.Proofs.Tryz.prog 80 fi80 := ⟨Go.Proofs.Tryz.f80, Go.Proofs.Tryz.func80, rfl, rfl, rfl, by kernel_rfl⟩
theorem fn81_ok : FnOK Go.Proofs.Tryz.prog 81 fi81 := ⟨Go.Proofs.Tryz.f81, Go.Proofs.Tryz.func81, rfl, rfl, rfl, by kernel_rfl⟩
theorem fn86_ok : FnOK Go.Proofs.Tryz.prog 86 fi86 := ⟨Go.Proofs.Tryz.f86, Go.Proofs.Tryz.func86, rfl, rfl, rfl, by kernel_rfl⟩
theorem fn87_ok : FnOK Go.Proofs.Tryz.prog 87 fi87 := ⟨Go.Proofs.Tryz.f87, Go.Proofs.Tryz.func87, rfl, rfl, rfl, by kernel_rfl⟩
theorem fn88_ok : FnOK Go.Proofs.Tryz.prog 88 fi88 := ⟨Go.Proofs.Tryz.f88, Go.Proofs.Tryz.func88, rfl, rfl, rfl, by kernel_rfl⟩
theorem fn89_ok : FnOK Go.Proofs.Tryz.prog 89 fi89 := ⟨Go.Proofs.Tryz.f89, Go.Proofs.Tryz.func89, rfl, rfl, rfl, by kernel_rfl⟩
theorem fn91_ok : FnOK Go.Proofs.Tryz.prog 91 fi91 := ⟨Go.Proofs.Tryz.f91, Go.Proofs.Tryz.func91, rfl, rfl, rfl, by kernel_rfl⟩
theorem fn97_ok : FnOK Go.Proofs.Tryz.prog 97 fi97 := ⟨Go.Proofs.Tryz.f97, Go.Proofs.Tryz.func97, rfl, rfl, rfl, by kernel_rfl⟩
theorem fn98_ok : FnOK Go.Proofs.Tryz.prog 98 fi98 := ⟨Go.Proofs.Tryz.f98, Go.Proofs.Tryz.func98, rfl, rfl, rfl, by kernel_rfl⟩
theorem fn99_ok : FnOK Go.Proofs.Tryz.prog 99 fi99 := ⟨Go.Proofs.Tryz.f99, Go.Proofs.Tryz.func99, rfl, rfl, rfl, by kernel_rfl⟩
theorem fn100_ok : FnOK Go.Proofs.Tryz.prog 100 fi100 := ⟨Go.Proofs.Tryz.f100, Go.Proofs.Tryz.func100, rfl, rfl, rfl, by kernel_rfl⟩
theorem fn101_ok : FnOK Go.Proofs.Tryz.prog 101 fi101 := ⟨Go.Proofs.Tryz.f101, Go.Proofs.Tryz.func101, rfl, rfl, rfl, by kernel_rfl⟩
theorem fn102_ok : FnOK Go.Proofs.Tryz.prog 102 fi102 := ⟨Go.Proofs.Tryz.f102, Go.Proofs.Tryz.func102, rfl, rfl, rfl, by kernel_rfl⟩
theorem fn104_ok : FnOK Go.Proofs.Tryz.prog 104 fi104 := ⟨Go.Proofs.Tryz.f104, Go.Proofs.Tryz.func104, rfl, rfl, rfl, by kernel_rfl⟩
theorem fn111_ok : FnOK Go.Proofs.Tryz.prog 111 fi111 := ⟨Go.Proofs.Tryz.f111, Go.Proofs.Tryz.func111, rfl, rfl, rfl, by kernel_rfl⟩
theorem fn112_ok : FnOK Go.Proofs.Tryz.prog 112 fi112 := ⟨Go.Proofs.Tryz.f112, Go.Proofs.Tryz.func112, rfl, rfl, rfl, by kernel_rfl⟩
theorem fn113_ok : FnOK Go.Proofs.Tryz.prog 113 fi113 := ⟨Go.Proofs.Tryz.f113, Go.Proofs.Tryz.func113, rfl, rfl, rfl, by kernel_rfl⟩
theorem fn114_ok : FnOK Go.Proofs.Tryz.prog 114 fi114 := ⟨Go.Proofs.Tryz.f114, Go.Proofs.Tryz.func114, rfl, rfl, rfl, by kernel_rfl⟩
theorem fn115_ok : FnOK Go.Proofs.Tryz.prog 115 fi115 := ⟨Go.Proofs.Tryz.f115, Go.Proofs.Tryz.func115, rfl, rfl, rfl, by kernel_rfl⟩
theorem fn117_ok : FnOK Go.Proofs.Tryz.prog 117 fi117 := ⟨Go.Proofs.Tryz.f117, Go.Proofs.Tryz.func117, rfl, rfl, rfl, by kernel_rfl⟩
theorem fn118_ok : FnOK Go.Proofs.Tryz.prog 118 fi118 := ⟨Go.Proofs.Tryz.f118, Go.Proofs.Tryz.func118, rfl, rfl, rfl, by kernel_rfl⟩
theorem fn119_ok : FnOK Go.Proofs.Tryz.prog 119 fi119 := ⟨Go.Proofs.Tryz.f119, Go.Proofs.Tryz.func119, rfl, rfl, rfl, by kernel_rfl⟩
theorem fn120_ok : FnOK Go.Proofs.Tryz.prog 120 fi120 := ⟨Go.Proofs.Tryz.f120, Go.Proofs.Tryz.func120, rfl, rfl, rfl, by kernel_rfl⟩
theorem fn121_ok : FnOK Go.Proofs.Tryz.prog 121 fi121 := ⟨Go.Proofs.Tryz.f121, Go.Proofs.Tryz.func121, rfl, rfl, rfl, by kernel_rfl⟩
theorem fn128_ok : FnOK Go.Proofs.Tryz.prog 128 fi128 := ⟨Go.Proofs.Tryz.f128, Go.Proofs.Tryz.func128, rfl, rfl, rfl, by kernel_rfl⟩
theorem fn129_ok : FnOK Go.Proofs.Tryz.prog 129 fi129 := ⟨Go.Proofs.Tryz.f129, Go.Proofs.Tryz.func129, rfl, rfl, rfl, by kernel_rfl⟩
theorem fn133_ok : FnOK Go.Proofs.Tryz.prog 133 fi133 := ⟨Go.Proofs.Tryz.f133, Go.Proofs.Tryz.func133, rfl, rfl, rfl, by kernel_rfl⟩
theorem fn134_ok : FnOK Go.Proofs.Tryz.prog 134 fi134 := ⟨Go.Proofs.Tryz.f134, Go.Proofs.Tryz.func134, rfl, rfl, rfl, by kernel_rfl⟩
theorem fn141_ok : FnOK Go.Proofs.Tryz.prog 141 fi141 := ⟨Go.Proofs.Tryz.f141, Go.Proofs.Tryz.func141, rfl, rfl, rfl, by kernel_rfl⟩
theorem fn142_ok : FnOK Go.Proofs.Tryz.prog 142 fi142 := ⟨Go.Proofs.Tryz.f142, Go.Proofs.Tryz.func142, rfl, rfl, rfl, by kernel_rfl⟩
theorem fn143_ok : FnOK Go.Proofs.Tryz.prog 143 fi143 := ⟨Go.Proofs.Tryz.f143, Go.Proofs.Tryz.func143, rfl, rfl, rfl, by kernel_rfl⟩
theorem fn144_ok : FnOK Go.Proofs.Tryz.prog 144 fi144 := ⟨Go.Proofs.Tryz.f144, Go.Proofs.Tryz.func144, rfl, rfl, rfl, by kernel_rfl⟩
theorem fn145_ok : FnOK Go.Proofs.Tryz.prog 145 fi145 := ⟨Go.Proofs.Tryz.f145, Go.Proofs.Tryz.func145, rfl, rfl, rfl, by kernel_rfl⟩
theorem fn146_ok : FnOK Go.Proofs.Tryz.prog 146 fi146 := ⟨Go.Proofs.Tryz.f146, Go.Proofs.Tryz.func146, rfl, rfl, rfl, by kernel_rfl⟩
theorem fn147_ok : FnOK Go.Proofs.Tryz.prog 147 fi147 := ⟨Go.Proofs.Tryz.f147, Go.Proofs.Tryz.func147, rfl, rfl, rfl, by kernel_rfl⟩
theorem fn148_ok : FnOK Go.Proofs.Tryz.prog 148 fi148 := ⟨Go.Proofs.Tryz.f148, Go.Proofs.Tryz.func148, rfl, rfl, rfl, by kernel_rfl⟩
theorem fn149_ok : FnOK Go.Proofs.Tryz.prog 149 fi149 := ⟨Go.Proofs.Tryz.f149, Go.Proofs.Tryz.func149, rfl, rfl, rfl, by kernel_rfl⟩
theorem fn150_ok : FnOK Go.Proofs.Tryz.prog 150 fi150 := ⟨Go.Proofs.Tryz.f150, Go.Proofs.Tryz.func150, rfl, rfl, rfl, by kernel_rfl⟩
theorem fn152_ok : FnOK Go.Proofs.Tryz.prog 152 fi152 := ⟨Go.Proofs.Tryz.f152, Go.Proofs.Tryz.func152, rfl, rfl, rfl, by kernel_rfl⟩
theorem fn155_ok : FnOK Go.Proofs.Tryz.prog 155 fi155 := ⟨Go.Proofs.Tryz.f155, Go.Proofs.Tryz.func155, rfl, rfl, rfl, by kernel_rfl⟩
theorem fn156_ok : FnOK Go.Proofs.Tryz.prog 156 fi156 := ⟨Go.Proofs.Tryz.f156, Go.Proofs.Tryz.func156, rfl, rfl, rfl, by kernel_rfl⟩
theorem fn157_ok : FnOK Go.Proofs.Tryz.prog 157 fi157 := ⟨Go.Proofs.Tryz.f157, Go.Proofs.Tryz.func157, rfl, rfl, rfl, by kernel_rfl⟩
theorem fn158_ok : FnOK Go.Proofs.Tryz.prog 158 fi158 := ⟨Go.Proofs.Tryz.f158, Go.Proofs.Tryz.func158, rfl, rfl, rfl, by kernel_rfl⟩
theorem fn172_ok : FnOK Go.Proofs.Tryz.prog 172 fi172 := ⟨Go.Proofs.Tryz.f172, Go.Proofs.Tryz.func172, rfl, rfl, rfl, by kernel_rfl⟩
theorem fn173_ok : FnOK Go.Proofs.Tryz.prog 173 fi173 := ⟨Go.Proofs.Tryz.f173, Go.Proofs.Tryz.func173, rfl, rfl, rfl, by kernel_rfl⟩
theorem fn174_ok : FnOK Go.Proofs.Tryz.prog 174 fi174 := ⟨Go.Proofs.Tryz.f174, Go.Proofs.Tryz.func174, rfl, rfl, rfl, by kernel_rfl⟩
theorem fn175_ok : FnOK Go.Proofs.Tryz.prog 175 fi175 := ⟨Go.Proofs.Tryz.f175, Go.Proofs.Tryz.func175, rfl, rfl, rfl, by kernel_rfl⟩
theorem fn176_ok : FnOK Go.Proofs.Tryz.prog 176 fi176 := ⟨Go.Proofs.Tryz.f176, Go.Proofs.Tryz.func176, rfl, rfl, rfl, by kernel_rfl⟩
theorem fn177_ok : FnOK Go.Proofs.Tryz.prog 177 fi177 := ⟨Go.Proofs.Tryz.f177, Go.Proofs.Tryz.func177, rfl, rfl, rfl, by kernel_rfl⟩
theorem fn178_ok : FnOK Go.Proofs.Tryz.prog 178 fi178 := ⟨Go.Proofs.Tryz.f178, Go.Proofs.Tryz.func178, rfl, rfl, rfl, by kernel_rfl⟩
theorem fn179_ok : FnOK Go.Proofs.Tryz.prog 179 fi179 := ⟨Go.Proofs.Tryz.f179, Go.Proofs.Tryz.func179, rfl, rfl, rfl, by kernel_rfl⟩
theorem fn180_ok : FnOK Go.Proofs.Tryz.prog 180 fi180 := ⟨Go.Proofs.Tryz.f180, Go.Proofs.Tryz.func180, rfl, rfl, rfl, by kernel_rfl⟩
theorem fn181_ok : FnOK Go.Proofs.Tryz.prog 181 fi181 := ⟨Go.Proofs.Tryz.f181, Go.Proofs.Tryz.func181, rfl, rfl, rfl, by kernel_rfl⟩
theorem fn187_ok : FnOK Go.Proofs.Tryz.prog 187 fi187 := ⟨Go.Proofs.Tryz.f187, Go.Proofs.Tryz.func187, rfl, rfl, rfl, by kernel_rfl⟩
theorem fn192_ok : FnOK Go.Proofs.Tryz.prog 192 fi192 := ⟨Go.Proofs.Tryz.f192, Go.Proofs.Tryz.func192, rfl, rfl, rfl, by kernel_rfl⟩
theorem fn198_ok : FnOK Go.Proofs.Tryz.prog 198 fi198 := ⟨Go.Proofs.Tryz.f198, Go.Proofs.Tryz.func198, rfl, rfl, rfl, by kernel_rfl⟩
theorem fns_ok : AllP (FnOK Go.Proofs.Tryz.prog) fnL := ⟨fn7_ok, fn8_ok, fn9_ok, fn11_ok, fn13_ok, fn20_ok, fn22_ok, fn24_ok, fn26_ok, fn28_ok, fn29_ok, fn30_ok, fn31_ok, fn32_ok, fn34_ok, fn36_ok, fn38_ok, fn41_ok, fn46_ok, fn47_ok, fn48_ok, fn52_ok, fn53_ok, fn54_ok, fn56_ok, fn57_ok, fn58_ok, fn60_ok, fn64_ok, fn65_ok, fn66_ok, fn67_ok, fn68_ok, fn69_ok, fn70_ok, fn71_ok, fn72_ok, fn76_ok, fn78_ok, fn80_ok, fn81_ok, fn86_ok, fn87_ok, fn88_ok, fn89_ok, fn91_ok, fn97_ok, fn98_ok, fn99_ok, fn100_ok, fn101_ok, fn102_ok, fn104_ok, fn111_ok, fn112_ok, fn113_ok, fn114_ok, fn115_ok, fn117_ok, fn118_ok, fn119_ok, fn120_ok, fn121_ok, fn128_ok, fn129_ok, fn133_ok, fn134_ok, fn141_ok, fn142_ok, fn143_ok, fn144_ok, fn145_ok, fn146_ok, fn147_ok, fn148_ok, fn149_ok, fn150_ok, fn152_ok, fn155_ok, fn156_ok, fn157_ok, fn158_ok, fn172_ok, fn173_ok, fn174_ok, fn175_ok, fn176_ok, fn177_ok, fn178_ok, fn179_ok, fn180_ok, fn181_ok, fn187_ok, fn192_ok, fn198_ok, trivial⟩
theorem mixed : (Go.Proofs.Tryz.prog).follows .mixedOrders = true := by kernel_rfl
theorem ext_ok (f : FuncId) (args : List Arg) (r : (sigOf f).den) (h : extOf f args = some r) : CallOK Go.Proofs.Tryz.prog elid sigOf f args r := by
  unfold extOf at h
  by_cases e105 : f = 105
  · subst e105
    rw [dif_pos rfl] at h
    exact atoi_ok (by kernel_rfl) ⟨Go.Proofs.Tryz.f105, Go.Proofs.Tryz.func105, rfl, by kernel_rfl⟩ Go.Proofs.Tryz.strconv_Atoi_ok Go.Proofs.Tryz.strconv_Atoi_syntax_var Go.Proofs.Tryz.strconv_Atoi_range_var (fun _ h => h.1) (fun _ h => h.2.1) h HEq.rfl
  rw [dif_neg e105] at h
  by_cases e159 : f = 159
  · subst e159
    rw [dif_pos rfl] at h
    exact itoa_ok (by kernel_rfl) ⟨Go.Proofs.Tryz.f159, Go.Proofs.Tryz.func159, rfl, by kernel_rfl⟩ Go.Proofs.Tryz.strconv_Itoa (fun _ h => h.2.2.1) h HEq.rfl
  rw [dif_neg e159] at h
  by_cases e193 : f = 193
  · subst e193
    rw [dif_pos rfl] at h
    exact cut_ok (by kernel_rfl) ⟨Go.Proofs.Tryz.f193, Go.Proofs.Tryz.func193, rfl, by kernel_rfl⟩ Go.Proofs.Tryz.strings_Cut (fun _ h => int_cell glob3 h.2.2.2) h HEq.rfl
  rw [dif_neg e193] at h
  cases h
theorem pks_at (f : Nat) : (E idb).pks f = match look f pkL with | some l => l | none => [] := by
  show pksOf f = _
  unfold pksOf
  cases look f pkL <;> rfl
theorem pks_ok : bldsOk 55 59 91 5 pkL = true := by kernel_rfl
theorem write_fn : BwOK Go.Proofs.Tryz.prog 55 91 (elid (.int .u8)) := write_ok Go.Proofs.Tryz.laysB166 Go.Proofs.Tryz.Builder_Extra_B ⟨Go.Proofs.Tryz.f55, Go.Proofs.Tryz.func55, rfl, by kernel_rfl⟩
theorem string_fn : BrOK Go.Proofs.Tryz.prog 59 91 5 := string_ok Go.Proofs.Tryz.laysB169 Go.Proofs.Tryz.Builder_Extra_B ⟨Go.Proofs.Tryz.f59, Go.Proofs.Tryz.func59, rfl, by kernel_rfl⟩
theorem env_ok : EOK Go.Proofs.Tryz.prog elid (E idb) := EOK.bld (fun T i h => (tysOk_spec tys_ok).look T i h) (pks := pkL) pks_at pks_ok write_fn string_fn rfl
/-- What the machine answers, the program answers. -/
theorem lv_ok (k : Nat) : LvOK Go.Proofs.Tryz.prog elid sigOf (lvl (E idb) k) :=
  levels (E := E idb) env_ok (fun _ _ => rfl) (fun f fi h => fns_ok.look f fi h) (fun f args r _ h => ext_ok f args r h) mixed k

end Go.Proofs.YtjkokaockhecnaaGreatDoorA
