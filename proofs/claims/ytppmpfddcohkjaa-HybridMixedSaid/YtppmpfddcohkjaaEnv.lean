/- The functions, types, parameters and results of the program, as the machine is told of them: definitions alone. -/
import Derived.Test.YtppmpfddcohkjaaProg
import Derived.Test.YtppmpfddcohkjaaExt
namespace Go.Proofs.YtppmpfddcohkjaaA
open Go
set_option linter.unusedVariables false

noncomputable def bodyOf (f : Func) : Code := match f.body with | some c => c | none => .skip

noncomputable def sg12 : Sig := ⟨[.one .bool], []⟩
noncomputable def fi12 : FnI := ⟨75, bodyOf Go.Proofs.Try.f12, [.tmp 8],
  [],
  [],
  [], [], false⟩
noncomputable def sg13 : Sig := ⟨[.one .bool], []⟩
noncomputable def fi13 : FnI := ⟨87, bodyOf Go.Proofs.Try.f13, [.tmp 6],
  [],
  [(0, [.keep [0, 2, 7, 8, 9], .own 8 (.int .i64) false, .keepR [2008]])],
  [], [], false⟩
noncomputable def sg14 : Sig := ⟨[.one .bool], []⟩
noncomputable def fi14 : FnI := ⟨145, bodyOf Go.Proofs.Try.f14, [.tmp 4],
  [],
  [],
  [], [], false⟩
noncomputable def sg15 : Sig := ⟨[.one .bool], []⟩
noncomputable def fi15 : FnI := ⟨65, bodyOf Go.Proofs.Try.f15, [.tmp 4],
  [],
  [(0, [.keep [5, 6, 7, 8], .own 7 (.int .i64) false, .keepR [2007]]), (2, [.keep [5, 6, 9, 12, 13], .own 12 (.int .u8) false, .keepR [2012]])],
  [], [], false⟩
noncomputable def sg16 : Sig := ⟨[.one .bool], []⟩
noncomputable def fi16 : FnI := ⟨90, bodyOf Go.Proofs.Try.f16, [.tmp 6],
  [],
  [(0, [.keep [0, 1, 7, 8, 9], .own 8 (.int .i64) false, .keepR [2008]])],
  [], [], false⟩
noncomputable def sg17 : Sig := ⟨[.one .bool], []⟩
noncomputable def fi17 : FnI := ⟨112, bodyOf Go.Proofs.Try.f17, [.tmp 4],
  [],
  [(0, [.keep [0, 5, 6, 7], .own 6 (.int .i64) false, .keepR [2006]]), (2, [.keep [0, 5, 6, 7, 8, 9], .own 6 (.int .i64) false, .keepR [2006]])],
  [], [], false⟩
noncomputable def sg28 : Sig := ⟨[.one (.int .i64)], []⟩
noncomputable def fi28 : FnI := ⟨4, bodyOf Go.Proofs.Try.f28, [.tmp 2],
  [],
  [],
  [], [], false⟩
noncomputable def sg35 : Sig := ⟨[.one (.room (.int .i64))], []⟩
noncomputable def fi35 : FnI := ⟨12, bodyOf Go.Proofs.Try.f35, [.tmp 2],
  [(2, [.froze 7 0])],
  [],
  [], [], false⟩
noncomputable def sg36 : Sig := ⟨[.one .str, .one (.int .i64)], []⟩
noncomputable def fi36 : FnI := ⟨62, bodyOf Go.Proofs.Try.f36, [.tmp 4, .tmp 5],
  [],
  [(0, [.keep [0, 1, 6], .bself 6, .cell 6 1 (.int .u8) false, .keepR [6]])],
  [], [], false⟩
noncomputable def sg37 : Sig := ⟨[.one .str, .one (.int .i64)], []⟩
noncomputable def fi37 : FnI := ⟨118, bodyOf Go.Proofs.Try.f37, [.tmp 4, .tmp 5],
  [],
  [(0, [.keep [0, 1, 6], .keepR []]), (2, [.keep [0, 1, 7, 8], .keepR []]), (4, [.keep [0, 1, 7, 8, 12], .keepR []])],
  [], [], false⟩
noncomputable def sg38 : Sig := ⟨[.one (.own (.int .i64) false), .one (.int .i64)], []⟩
noncomputable def fi38 : FnI := ⟨136, bodyOf Go.Proofs.Try.f38, [.tmp 6, .tmp 7],
  [],
  [(0, [.keep [0, 1, 2, 8], .cell 32 2 (.int .i64) false, .keepR [32]])],
  [(12, [.keep [0, 1, 2, 8, 9], .cell 32 2 (.int .i64) false, .keepR [32]])], [], false⟩
noncomputable def sg39 : Sig := ⟨[.one (.own (.int .i64) false), .one (.int .i64)], []⟩
noncomputable def fi39 : FnI := ⟨149, bodyOf Go.Proofs.Try.f39, [.tmp 6, .tmp 7],
  [],
  [(0, [.keep [0, 1, 2, 8, 9], .own 8 (.int .i64) false, .keepR [2008]]), (2, [.keep [0, 1, 2, 8, 10, 11, 13, 14, 15], .own 8 (.int .i64) false, .keepR [2008]]), (4, [.keep [0, 1, 2, 8, 10, 11, 13, 14, 15, 16, 17], .own 8 (.int .i64) false, .keepR [2008]])],
  [(13, [.keep [0, 1, 2, 8, 10, 11, 13, 14], .own 8 (.int .i64) false, .keepR [2008]]), (21, [.keep [0, 1, 2, 8, 10, 11, 13, 14, 15, 16], .own 8 (.int .i64) false, .keepR [2008]])], [], false⟩
noncomputable def sg40 : Sig := ⟨[.one .bool], []⟩
noncomputable def fi40 : FnI := ⟨26, bodyOf Go.Proofs.Try.f40, [.tmp 4],
  [],
  [(0, [.keep [0, 1, 5], .keepR []])],
  [], [], false⟩
noncomputable def sg41 : Sig := ⟨[], []⟩
noncomputable def fi41 : FnI := ⟨17, bodyOf Go.Proofs.Try.f41, [],
  [],
  [(0, [.keep [0, 2], .own 0 (.int .i64) false, .keepR [2000]])],
  [], [], false⟩
noncomputable def sg42 : Sig := ⟨[.one .bool], []⟩
noncomputable def fi42 : FnI := ⟨31, bodyOf Go.Proofs.Try.f42, [.tmp 4],
  [],
  [],
  [], [], false⟩
noncomputable def sg43 : Sig := ⟨[.one .bool], []⟩
noncomputable def fi43 : FnI := ⟨72, bodyOf Go.Proofs.Try.f43, [.tmp 0],
  [],
  [],
  [], [], false⟩
noncomputable def sg50 : Sig := ⟨[.one (.int .i64)], []⟩
noncomputable def fi50 : FnI := ⟨6, bodyOf Go.Proofs.Try.f50, [.tmp 2],
  [],
  [],
  [], [], false⟩
noncomputable def sg59 : Sig := ⟨[.one .str], []⟩
noncomputable def fi59 : FnI := ⟨24, bodyOf Go.Proofs.Try.f59, [.tmp 4],
  [],
  [(0, [.keep [0, 1, 5, 6], .own 5 (.int .u8) false, .keepR [2005]])],
  [], [], false⟩
noncomputable def sg66 : Sig := ⟨[.one (.own (.int .i64) false)], []⟩
noncomputable def fi66 : FnI := ⟨6, bodyOf Go.Proofs.Try.f66, [.tmp 2],
  [],
  [],
  [], [], false⟩
noncomputable def sg67 : Sig := ⟨[.one .bool], []⟩
noncomputable def fi67 : FnI := ⟨24, bodyOf Go.Proofs.Try.f67, [.tmp 4],
  [],
  [],
  [], [], false⟩
noncomputable def sg68 : Sig := ⟨[.one (.int .i64)], []⟩
noncomputable def fi68 : FnI := ⟨21, bodyOf Go.Proofs.Try.f68, [.tmp 2],
  [],
  [(0, [.keep [0, 5, 6, 7], .keepR []])],
  [], [], false⟩
noncomputable def sg69 : Sig := ⟨[.one .str, .one (.int .i64)], []⟩
noncomputable def fi69 : FnI := ⟨24, bodyOf Go.Proofs.Try.f69, [.tmp 2, .tmp 3],
  [],
  [(0, [.keep [0, 4], .own 4 (.int .u8) false, .keepR [2004]])],
  [], [], false⟩
noncomputable def sg71 : Sig := ⟨[.one .str], []⟩
noncomputable def fi71 : FnI := ⟨25, bodyOf Go.Proofs.Try.f71, [.tmp 4],
  [],
  [(0, [.keep [0, 5, 10, 11], .own 5 (.int .u8) false, .keepR [2005]])],
  [], [], false⟩
noncomputable def sg72 : Sig := ⟨[.one (.int .i64)], []⟩
noncomputable def fi72 : FnI := ⟨6, bodyOf Go.Proofs.Try.f72, [.tmp 2],
  [],
  [],
  [], [], false⟩
noncomputable def sg73 : Sig := ⟨[.one (.int .i64)], []⟩
noncomputable def fi73 : FnI := ⟨18, bodyOf Go.Proofs.Try.f73, [.tmp 2],
  [],
  [(0, [.keep [0, 3], .keepR []])],
  [], [], false⟩
noncomputable def sg74 : Sig := ⟨[.one .str], []⟩
noncomputable def fi74 : FnI := ⟨45, bodyOf Go.Proofs.Try.f74, [.tmp 4],
  [],
  [(0, [.keep [1, 5, 18, 19, 20], .own 5 .bool false, .keepR [2005]]), (2, [.keep [1, 5, 6, 7, 18, 19, 20, 25, 26], .own 5 .bool false, .keepR [2005]])],
  [], [], false⟩
noncomputable def sg76 : Sig := ⟨[.one (.int .i64)], []⟩
noncomputable def fi76 : FnI := ⟨28, bodyOf Go.Proofs.Try.f76, [.tmp 4],
  [],
  [(0, [.keep [0, 1, 5], .keepR []])],
  [], [], false⟩
noncomputable def sg77 : Sig := ⟨[.one .str, .one (.int .i64)], []⟩
noncomputable def fi77 : FnI := ⟨26, bodyOf Go.Proofs.Try.f77, [.tmp 2, .tmp 3],
  [],
  [(0, [.keep [0, 4], .own 4 (.int .u8) false, .keepR [2004]])],
  [], [], false⟩
noncomputable def sg78 : Sig := ⟨[.one .str], []⟩
noncomputable def fi78 : FnI := ⟨41, bodyOf Go.Proofs.Try.f78, [.tmp 4],
  [],
  [(0, [.keep [0, 1, 5, 6], .own 5 .bool false, .keepR [2005]]), (2, [.keep [0, 1, 5, 6, 7], .own 5 .bool false, .keepR [2005]])],
  [], [], false⟩
noncomputable def sg79 : Sig := ⟨[.one (.int .i64), .one (.int .i64), .one (.int .i64)], []⟩
noncomputable def fi79 : FnI := ⟨70, bodyOf Go.Proofs.Try.f79, [.tmp 4, .tmp 5, .tmp 6],
  [],
  [(0, [.keep [0, 1, 7, 8], .keepR []])],
  [], [], false⟩
noncomputable def sg80 : Sig := ⟨[], [(0, [.str, (.int .i64), (.own (.int .i64) false), .bool])]⟩
noncomputable def fi80 : FnI := ⟨44, bodyOf Go.Proofs.Try.f80, [],
  [(1000000, [.cell 1000 2 (.int .i64) false])],
  [],
  [], [38], false⟩
noncomputable def sg81 : Sig := ⟨[], [(0, [.str, (.int .i64), (.own (.int .i64) false), .bool])]⟩
noncomputable def fi81 : FnI := ⟨74, bodyOf Go.Proofs.Try.f81, [],
  [],
  [(0, [.keep [0, 6, 30, 31], .cell 1000 2 (.int .i64) false, .keepR [1000]]), (2, [.keep [0, 6, 7, 8, 30, 31, 37, 38], .cell 1000 2 (.int .i64) false, .keepR [1000]])],
  [], [], false⟩
noncomputable def sg82 : Sig := ⟨[.one (.int .i64), .one (.int .i64), .one (.int .i64)], []⟩
noncomputable def fi82 : FnI := ⟨63, bodyOf Go.Proofs.Try.f82, [.tmp 4, .tmp 5, .tmp 6],
  [],
  [(0, [.keep [0, 1, 7, 8], .keepR []])],
  [], [], false⟩
noncomputable def sg83 : Sig := ⟨[.one (.int .i64)], []⟩
noncomputable def fi83 : FnI := ⟨21, bodyOf Go.Proofs.Try.f83, [.tmp 2],
  [],
  [(0, [.keep [0, 3, 4], .keepR []])],
  [], [], false⟩
noncomputable def sg84 : Sig := ⟨[.one .bool], []⟩
noncomputable def fi84 : FnI := ⟨14, bodyOf Go.Proofs.Try.f84, [.tmp 4],
  [],
  [],
  [], [], false⟩
noncomputable def sg97 : Sig := ⟨[.one .bool], []⟩
noncomputable def fi97 : FnI := ⟨5, bodyOf Go.Proofs.Try.f97, [.tmp 2],
  [],
  [],
  [], [], false⟩
noncomputable def sg103 : Sig := ⟨[.one .str], []⟩
noncomputable def fi103 : FnI := ⟨34, bodyOf Go.Proofs.Try.f103, [.tmp 2],
  [],
  [(0, [.keep [0, 3, 4], .own 3 (.int .u8) false, .keepR [2003]])],
  [], [], false⟩
noncomputable def sg111 : Sig := ⟨[.one .bool], []⟩
noncomputable def fi111 : FnI := ⟨12, bodyOf Go.Proofs.Try.f111, [.tmp 3],
  [],
  [],
  [], [], false⟩
noncomputable def sg112 : Sig := ⟨[.one .bool], []⟩
noncomputable def fi112 : FnI := ⟨9, bodyOf Go.Proofs.Try.f112, [.tmp 4],
  [],
  [],
  [], [], false⟩
noncomputable def sg113 : Sig := ⟨[.one .bool], []⟩
noncomputable def fi113 : FnI := ⟨9, bodyOf Go.Proofs.Try.f113, [.tmp 2],
  [],
  [],
  [], [], false⟩
noncomputable def sg115 : Sig := ⟨[.one .str], []⟩
noncomputable def fi115 : FnI := ⟨31, bodyOf Go.Proofs.Try.f115, [.tmp 2],
  [],
  [(0, [.keep [3, 10, 11, 12], .own 3 (.int .u8) false, .keepR [2003]])],
  [], [], false⟩
noncomputable def sg116 : Sig := ⟨[.one (.int .i64)], []⟩
noncomputable def fi116 : FnI := ⟨22, bodyOf Go.Proofs.Try.f116, [.tmp 2],
  [],
  [(0, [.keep [0, 3, 6, 7], .keepR []])],
  [], [], false⟩
noncomputable def sg117 : Sig := ⟨[.one .str], [(0, [.str, (.int .i64), (.own (.int .i64) false), .bool])]⟩
noncomputable def fi117 : FnI := ⟨38, bodyOf Go.Proofs.Try.f117, [.tmp 4],
  [],
  [],
  [], [], false⟩
noncomputable def sg118 : Sig := ⟨[.one (.own (.int .i64) false)], []⟩
noncomputable def fi118 : FnI := ⟨48, bodyOf Go.Proofs.Try.f118, [.tmp 4],
  [],
  [(0, [.keep [7, 8], .own 7 (.int .i64) false, .keepR [2007]])],
  [(3, [.keep [0, 1], .keepR []]), (6, [.keep [0, 6], .keepR []])], [], false⟩
noncomputable def sg119 : Sig := ⟨[.one .bool], []⟩
noncomputable def fi119 : FnI := ⟨14, bodyOf Go.Proofs.Try.f119, [.tmp 4],
  [],
  [],
  [], [], false⟩
noncomputable def sg126 : Sig := ⟨[.one .bool], []⟩
noncomputable def fi126 : FnI := ⟨15, bodyOf Go.Proofs.Try.f126, [.tmp 6],
  [],
  [],
  [], [], false⟩
noncomputable def sg132 : Sig := ⟨[.one (.int .i64)], []⟩
noncomputable def fi132 : FnI := ⟨19, bodyOf Go.Proofs.Try.f132, [.tmp 4],
  [],
  [(0, [.keep [0, 1, 7, 8], .keepR []])],
  [], [], false⟩
noncomputable def sg134 : Sig := ⟨[.one (.int .u64), .one (.int .u64)], []⟩
noncomputable def fi134 : FnI := ⟨30, bodyOf Go.Proofs.Try.f134, [.tmp 4, .tmp 5],
  [],
  [],
  [], [], false⟩
noncomputable def sg136 : Sig := ⟨[.one (.int .u64), .one (.int .u64)], []⟩
noncomputable def fi136 : FnI := ⟨51, bodyOf Go.Proofs.Try.f136, [.tmp 4, .tmp 5],
  [],
  [],
  [], [], false⟩
noncomputable def tyL : List (Nat × TyI) := [
  (3, ⟨false, 1, 8, [(.int .i64 0)], some .i64, false, none, 0, [], 0, [], false, false, false⟩),
  (4, ⟨false, 1, 1, [(.bool false)], none, false, none, 0, [], 0, [], false, true, false⟩),
  (5, ⟨false, 1, 1, [(.int .u8 0)], some .u8, false, none, 0, [], 0, [], false, false, false⟩),
  (9, ⟨false, 1, 16, [(.str [])], none, true, none, 0, [], 0, [], false, false, false⟩),
  (38, ⟨false, 1, 24, [.nils], none, false, some .str, 9, [(.str [])], 16, [], false, false, false⟩),
  (40, ⟨false, 1, 8, [(.int .u64 0)], some .u64, false, none, 0, [], 0, [], false, false, false⟩),
  (41, ⟨false, 1, 24, [.nils], none, false, some (.int .u8), 5, [(.int .u8 0)], 1, [], false, false, false⟩),
  (57, ⟨false, 1, 24, [.nils], none, false, some (.int .i64), 3, [(.int .i64 0)], 8, [], false, false, false⟩),
  (95, ⟨true, 2, 32, [.nilp, .nils], none, false, none, 0, [], 0, [(0, 1, 93), (1, 1, 41)], false, false, true⟩),
  (108, ⟨true, 4, 56, [(.str []), (.int .i64 0), .nils, (.bool false)], none, false, none, 0, [], 0, [(0, 1, 9), (1, 1, 3), (2, 1, 57), (3, 1, 4)], false, false, false⟩),
  (131, ⟨false, 1, 24, [.nils], none, false, some .bool, 4, [(.bool false)], 1, [], false, false, false⟩),
  (143, ⟨false, 1, 8, [(.int .u64 0)], some .u64, false, none, 0, [], 0, [], false, false, false⟩),
  (158, ⟨false, 1, 4, [(.int .u32 0)], some .u32, false, none, 0, [], 0, [], false, false, false⟩)]
noncomputable def pkL : List (Nat × List PK) := [
  (12, [.one (.list (.int .i64)), .one (.int .i64), .one .str, .one (.int .i64)]),
  (13, [.one (.list (.int .i64)), .one (.int .i64), .one (.int .i64)]),
  (14, [.one (.int .i64), .one (.int .i64)]),
  (15, [.one (.int .i64), .one (.int .i64)]),
  (16, [.one (.list (.int .i64)), .one (.int .i64), .one (.int .i64)]),
  (17, [.one (.list (.int .i64)), .one (.int .i64)]),
  (28, [.one (.int .i64)]),
  (35, [.one (.list (.int .i64))]),
  (36, [.one (.list (.int .i64)), .one (.int .i64)]),
  (37, [.one (.list (.int .i64)), .one (.int .i64)]),
  (38, [.one .str, .one (.int .i64), .one (.int .i64)]),
  (39, [.one .str, .one (.int .i64), .one (.int .i64)]),
  (40, [.one (.list (.int .i64)), .one (.list (.int .i64))]),
  (41, [.one (.own (.int .i64) false)]),
  (42, [.one (.room (.int .i64)), .one (.list (.int .i64))]),
  (43, []),
  (50, [.one (.int .i64)]),
  (59, [.one (.int .i64), .one (.int .i64)]),
  (66, [.one (.list (.int .i64))]),
  (67, [.one (.list (.int .i64)), .one (.int .i64)]),
  (68, [.one (.list (.int .i64))]),
  (69, [.one (.int .i64)]),
  (70, [.bw 95, .one .str]),
  (71, [.one (.int .i64), .one (.int .i64)]),
  (72, [.one (.int .i64)]),
  (73, [.one (.list (.int .i64))]),
  (74, [.one (.list (.int .i64)), .one (.int .i64)]),
  (75, [.br 95 5]),
  (76, [.one (.list (.int .i64)), .one (.int .i64)]),
  (77, [.one (.int .i64)]),
  (78, [.one (.list (.int .i64)), .one (.int .i64)]),
  (79, [.one .str, .one (.int .i64)]),
  (80, [.rw [.str, (.int .i64), (.own (.int .i64) false), .bool], .one (.int .i64), .one (.int .i64)]),
  (81, [.rw [.str, (.int .i64), (.own (.int .i64) false), .bool], .one (.int .i64), .one (.int .i64)]),
  (82, [.one .str, .one (.int .i64)]),
  (83, [.one .str]),
  (84, [.one .str, .one (.int .i64)]),
  (97, [.one (.int .i64)]),
  (103, [.one (.list .bool)]),
  (111, [.one (.int .i64), .ro [(.int .i64)]]),
  (112, [.one (.list (.int .i64)), .fn]),
  (113, [.one (.int .i64)]),
  (115, [.one (.list .bool)]),
  (116, [.one .str]),
  (117, [.rw [.str, (.int .i64), (.own (.int .i64) false), .bool], .one (.int .i64)]),
  (118, [.one (.list (.int .i64)), .one (.int .i64)]),
  (119, [.one .str, .one (.int .i64)]),
  (126, [.one (.int .i64), .one (.int .i64), .one (.int .i64)]),
  (132, [.one (.list (.int .i64)), .fn]),
  (134, [.one (.int .u64), .one (.int .u64)]),
  (136, [.one (.int .u64), .one (.int .u64)])]
noncomputable def sgL : List (Nat × Sig) := [(12, sg12), (13, sg13), (14, sg14), (15, sg15), (16, sg16), (17, sg17), (28, sg28), (35, sg35), (36, sg36), (37, sg37), (38, sg38), (39, sg39), (40, sg40), (41, sg41), (42, sg42), (43, sg43), (50, sg50), (59, sg59), (66, sg66), (67, sg67), (68, sg68), (69, sg69), (71, sg71), (72, sg72), (73, sg73), (74, sg74), (76, sg76), (77, sg77), (78, sg78), (79, sg79), (80, sg80), (81, sg81), (82, sg82), (83, sg83), (84, sg84), (97, sg97), (103, sg103), (111, sg111), (112, sg112), (113, sg113), (115, sg115), (116, sg116), (117, sg117), (118, sg118), (119, sg119), (126, sg126), (132, sg132), (134, sg134), (136, sg136)]
noncomputable def fnL : List (Nat × FnI) := [(12, fi12), (13, fi13), (14, fi14), (15, fi15), (16, fi16), (17, fi17), (28, fi28), (35, fi35), (36, fi36), (37, fi37), (38, fi38), (39, fi39), (40, fi40), (41, fi41), (42, fi42), (43, fi43), (50, fi50), (59, fi59), (66, fi66), (67, fi67), (68, fi68), (69, fi69), (71, fi71), (72, fi72), (73, fi73), (74, fi74), (76, fi76), (77, fi77), (78, fi78), (79, fi79), (80, fi80), (81, fi81), (82, fi82), (83, fi83), (84, fi84), (97, fi97), (103, fi103), (111, fi111), (112, fi112), (113, fi113), (115, fi115), (116, fi116), (117, fi117), (118, fi118), (119, fi119), (126, fi126), (132, fi132), (134, fi134), (136, fi136)]
noncomputable def pksOf (f : FuncId) : List PK := match look f pkL with | some l => l | none => []
noncomputable def sigOf (f : FuncId) : Sig := match look f sgL with | some s => s | none => ⟨[], []⟩
noncomputable def extOf (f : FuncId) (_ : List Arg) : Option (sigOf f).den := none
noncomputable def E (bar : Bar) : Env := ⟨fun f => look f fnL, fun t => look t tyL, pksOf, sigOf, extOf, bar⟩

end Go.Proofs.YtppmpfddcohkjaaA
