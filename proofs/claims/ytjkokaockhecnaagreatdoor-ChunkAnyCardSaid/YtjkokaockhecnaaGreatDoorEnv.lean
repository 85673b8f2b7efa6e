/- The functions, types, parameters and results of the program, as the machine is told of them: definitions alone. -/
import Derived.Test.YtjkokaockhecnaaGreatDoorProg
import Derived.Test.YtjkokaockhecnaaGreatDoorExt
namespace Go.Proofs.YtjkokaockhecnaaGreatDoorA
open Go
set_option linter.unusedVariables false

noncomputable def bodyOf (f : Func) : Code := match f.body with | some c => c | none => .skip

noncomputable def sg7 : Sig := ⟨[.one .bool], []⟩
noncomputable def fi7 : FnI := ⟨152, bodyOf Go.Proofs.Tryz.f7, [.tmp 4],
  [],
  [],
  [], [98, 107, 120, 129], false⟩
noncomputable def sg8 : Sig := ⟨[.one .bool], []⟩
noncomputable def fi8 : FnI := ⟨47, bodyOf Go.Proofs.Tryz.f8, [.tmp 6],
  [],
  [],
  [], [], false⟩
noncomputable def sg9 : Sig := ⟨[.one .bool], []⟩
noncomputable def fi9 : FnI := ⟨60, bodyOf Go.Proofs.Tryz.f9, [.tmp 8],
  [],
  [],
  [], [], false⟩
noncomputable def sg11 : Sig := ⟨[.one .bool], []⟩
noncomputable def fi11 : FnI := ⟨76, bodyOf Go.Proofs.Tryz.f11, [.tmp 8],
  [(13, [.froze 2010 0])],
  [(0, [.keep [1, 4, 6, 9, 10, 12, 13], .own 10 .str false, .keepR [4, 6, 2010]])],
  [], [], false⟩
noncomputable def sg13 : Sig := ⟨[.one .bool], []⟩
noncomputable def fi13 : FnI := ⟨126, bodyOf Go.Proofs.Tryz.f13, [.tmp 10],
  [(8, [.froze 32 0]), (9, [.froze 42 0]), (10, [.froze 49 0])],
  [],
  [], [], false⟩
noncomputable def sg20 : Sig := ⟨[.one (.int .i64)], []⟩
noncomputable def fi20 : FnI := ⟨4, bodyOf Go.Proofs.Tryz.f20, [.tmp 2],
  [],
  [],
  [], [], false⟩
noncomputable def sg22 : Sig := ⟨[.one .str, .one (.int .i64)], []⟩
noncomputable def fi22 : FnI := ⟨75, bodyOf Go.Proofs.Tryz.f22, [.tmp 6, .tmp 7],
  [],
  [(0, [.keep [5, 11, 12, 13, 45, 46, 47], .bself 13, .own 45 (.int .i64) false, .cell 13 1 (.int .u8) false, .keepR [5, 13, 2045]]), (2, [.keep [13, 60, 61, 62], .bself 13, .cell 13 1 (.int .u8) false, .keepR [13]])],
  [], [], false⟩
noncomputable def sg24 : Sig := ⟨[.agg [(.own (.int .i64) false), (.own (.int .i64) false), (.own .str false)], .one (.int .i64)], []⟩
noncomputable def fi24 : FnI := ⟨134, bodyOf Go.Proofs.Tryz.f24, [.cell 6 42, .tmp 7],
  [],
  [(0, [.keep [1, 2, 3, 6, 11, 15, 16, 17, 82, 83], .cell 15 0 (.int .i64) false, .cell 15 1 (.int .i64) false, .cell 15 2 .str false, .cell 6 0 (.int .i64) false, .cell 6 1 (.int .i64) false, .cell 6 2 .str false, .keepR [3, 6, 15, 48]])],
  [], [], false⟩
noncomputable def sg26 : Sig := ⟨[.one .bool], []⟩
noncomputable def fi26 : FnI := ⟨24, bodyOf Go.Proofs.Tryz.f26, [.tmp 4],
  [],
  [],
  [], [], false⟩
noncomputable def sg28 : Sig := ⟨[.one .bool], []⟩
noncomputable def fi28 : FnI := ⟨87, bodyOf Go.Proofs.Tryz.f28, [.tmp 0],
  [],
  [],
  [], [23, 32, 40], false⟩
noncomputable def sg29 : Sig := ⟨[.agg [(.own .node false)]], []⟩
noncomputable def fi29 : FnI := ⟨4, bodyOf Go.Proofs.Tryz.f29, [.cell 0 32],
  [],
  [],
  [], [], false⟩
noncomputable def sg30 : Sig := ⟨[.one (.int .i64)], []⟩
noncomputable def fi30 : FnI := ⟨33, bodyOf Go.Proofs.Tryz.f30, [.tmp 2],
  [],
  [(0, [.keep [0, 3, 4], .keepR []]), (2, [.keep [0, 3, 4, 5], .keepR []])],
  [], [], false⟩
noncomputable def sg31 : Sig := ⟨[.one .str], []⟩
noncomputable def fi31 : FnI := ⟨24, bodyOf Go.Proofs.Tryz.f31, [.tmp 4],
  [],
  [(0, [.keep [0, 1, 5, 6], .own 5 (.int .u8) false, .keepR [2005]])],
  [], [], false⟩
noncomputable def sg32 : Sig := ⟨[.one .bool], []⟩
noncomputable def fi32 : FnI := ⟨116, bodyOf Go.Proofs.Tryz.f32, [.tmp 6],
  [],
  [(0, [.keep [1, 3, 5, 7, 8, 10, 11], .keepR [3, 5]]), (2, [.keep [1, 3, 5, 10, 12], .keepR [3, 5]])],
  [], [], false⟩
noncomputable def sg34 : Sig := ⟨[.one (.own .str false), .one (.int .i64)], []⟩
noncomputable def fi34 : FnI := ⟨94, bodyOf Go.Proofs.Tryz.f34, [.tmp 8, .tmp 9],
  [],
  [(0, [.keep [1, 3, 4, 6, 11, 13], .own 13 .str false, .keepR [4, 6, 2013]])],
  [], [], false⟩
noncomputable def sg36 : Sig := ⟨[.agg [(.own (.int .i64) false), (.own (.int .i64) false), (.own .str false)], .one (.int .i64)], []⟩
noncomputable def fi36 : FnI := ⟨78, bodyOf Go.Proofs.Tryz.f36, [.cell 6 42, .tmp 7],
  [],
  [(0, [.keep [1, 3, 6, 8, 9, 17, 18, 19], .cell 6 0 (.int .i64) false, .cell 6 1 (.int .i64) false, .cell 6 2 .str false, .cell 8 0 (.int .i64) false, .cell 8 1 (.int .i64) false, .cell 8 2 .str false, .keepR [3, 6, 8]])],
  [], [], false⟩
noncomputable def sg38 : Sig := ⟨[.one .bool], []⟩
noncomputable def fi38 : FnI := ⟨26, bodyOf Go.Proofs.Tryz.f38, [.tmp 4],
  [],
  [(0, [.keep [0, 1, 5], .keepR []])],
  [], [], false⟩
noncomputable def sg41 : Sig := ⟨[.one .bool], []⟩
noncomputable def fi41 : FnI := ⟨83, bodyOf Go.Proofs.Tryz.f41, [.tmp 0],
  [(2, [.froze 12 0, .froze 13 0, .froze 14 0]), (3, [.froze 19 0])],
  [],
  [], [17, 23, 29, 35, 36, 41], false⟩
noncomputable def sg46 : Sig := ⟨[.one .str], []⟩
noncomputable def fi46 : FnI := ⟨22, bodyOf Go.Proofs.Tryz.f46, [.tmp 2],
  [],
  [(0, [.keep [0, 3], .keepR []])],
  [], [], false⟩
noncomputable def sg47 : Sig := ⟨[.one .bool], []⟩
noncomputable def fi47 : FnI := ⟨18, bodyOf Go.Proofs.Tryz.f47, [.tmp 4],
  [],
  [],
  [], [], false⟩
noncomputable def sg48 : Sig := ⟨[.one .bool], []⟩
noncomputable def fi48 : FnI := ⟨105, bodyOf Go.Proofs.Tryz.f48, [.tmp 6],
  [],
  [(0, [.keep [3, 8, 9, 11, 13], .own 9 .str false, .own 11 (.int .i64) false, .keepR [3, 2009, 2011]])],
  [], [], false⟩
noncomputable def sg52 : Sig := ⟨[.one .bool], []⟩
noncomputable def fi52 : FnI := ⟨78, bodyOf Go.Proofs.Tryz.f52, [.tmp 6],
  [],
  [(0, [.keep [1, 3, 5, 8, 53, 54, 55], .keepR [3, 5]])],
  [], [], false⟩
noncomputable def sg53 : Sig := ⟨[.one (.int .i64), .one (.int .i64), .one (.int .i64)], []⟩
noncomputable def fi53 : FnI := ⟨44, bodyOf Go.Proofs.Tryz.f53, [.tmp 4, .tmp 5, .tmp 6],
  [],
  [(0, [.keep [2, 7, 8, 16, 17, 18], .own 16 (.int .i64) false, .keepR [2, 2016]])],
  [], [], false⟩
noncomputable def sg54 : Sig := ⟨[.one .str], []⟩
noncomputable def fi54 : FnI := ⟨16, bodyOf Go.Proofs.Tryz.f54, [.tmp 4],
  [],
  [],
  [], [], false⟩
noncomputable def sg56 : Sig := ⟨[.one .str], []⟩
noncomputable def fi56 : FnI := ⟨25, bodyOf Go.Proofs.Tryz.f56, [.tmp 4],
  [],
  [(0, [.keep [0, 5, 10, 11], .own 5 (.int .u8) false, .keepR [2005]])],
  [], [], false⟩
noncomputable def sg57 : Sig := ⟨[.one .str], []⟩
noncomputable def fi57 : FnI := ⟨45, bodyOf Go.Proofs.Tryz.f57, [.tmp 2],
  [],
  [],
  [], [], false⟩
noncomputable def sg58 : Sig := ⟨[.one (.int .i64)], []⟩
noncomputable def fi58 : FnI := ⟨31, bodyOf Go.Proofs.Tryz.f58, [.tmp 2],
  [],
  [(0, [.keep [0, 3, 7, 8], .keepR []]), (2, [.keep [0, 3, 7, 8, 17], .keepR []])],
  [], [], false⟩
noncomputable def sg60 : Sig := ⟨[.one (.int .i64), .one (.int .i64), .one (.int .i64)], []⟩
noncomputable def fi60 : FnI := ⟨42, bodyOf Go.Proofs.Tryz.f60, [.tmp 4, .tmp 5, .tmp 6],
  [],
  [(0, [.keep [1, 2, 7, 8], .keepR [2]])],
  [(8, [.keep [1, 2, 7, 8], .keepR [2]])], [], false⟩
noncomputable def sg64 : Sig := ⟨[.one .bool], []⟩
noncomputable def fi64 : FnI := ⟨18, bodyOf Go.Proofs.Tryz.f64, [.tmp 4],
  [],
  [],
  [], [], false⟩
noncomputable def sg65 : Sig := ⟨[.one (.int .i64)], []⟩
noncomputable def fi65 : FnI := ⟨22, bodyOf Go.Proofs.Tryz.f65, [.tmp 2],
  [],
  [(0, [.keep [0, 3, 6, 7], .keepR []])],
  [], [], false⟩
noncomputable def sg66 : Sig := ⟨[.one (.int .i64)], [(0, [.str, .bool])]⟩
noncomputable def fi66 : FnI := ⟨27, bodyOf Go.Proofs.Tryz.f66, [.tmp 2],
  [],
  [],
  [], [], false⟩
noncomputable def sg67 : Sig := ⟨[.one (.own (.int .i64) false), .one (.int .i64)], []⟩
noncomputable def fi67 : FnI := ⟨136, bodyOf Go.Proofs.Tryz.f67, [.tmp 6, .tmp 7],
  [],
  [(0, [.keep [0, 1, 2, 8], .cell 32 2 (.int .i64) false, .keepR [32]])],
  [(12, [.keep [0, 1, 2, 8, 9], .cell 32 2 (.int .i64) false, .keepR [32]])], [], false⟩
noncomputable def sg68 : Sig := ⟨[.one .str], [(0, [.str, .bool])]⟩
noncomputable def fi68 : FnI := ⟨42, bodyOf Go.Proofs.Tryz.f68, [.tmp 4],
  [],
  [],
  [], [], false⟩
noncomputable def sg69 : Sig := ⟨[.one (.int .i64)], []⟩
noncomputable def fi69 : FnI := ⟨8, bodyOf Go.Proofs.Tryz.f69, [.tmp 2],
  [],
  [],
  [], [], false⟩
noncomputable def sg70 : Sig := ⟨[.one (.int .i64)], []⟩
noncomputable def fi70 : FnI := ⟨21, bodyOf Go.Proofs.Tryz.f70, [.tmp 4],
  [],
  [(0, [.keep [1, 5, 8, 9, 10], .keepR []])],
  [], [], false⟩
noncomputable def sg71 : Sig := ⟨[.one .str], [(0, [.str, .bool])]⟩
noncomputable def fi71 : FnI := ⟨22, bodyOf Go.Proofs.Tryz.f71, [.tmp 4],
  [],
  [],
  [], [], false⟩
noncomputable def sg72 : Sig := ⟨[.one .bool], []⟩
noncomputable def fi72 : FnI := ⟨17, bodyOf Go.Proofs.Tryz.f72, [.tmp 4],
  [],
  [],
  [], [], false⟩
noncomputable def sg76 : Sig := ⟨[.one .bool], []⟩
noncomputable def fi76 : FnI := ⟨26, bodyOf Go.Proofs.Tryz.f76, [.tmp 4],
  [],
  [(0, [.keep [0, 1, 5], .keepR []])],
  [], [], false⟩
noncomputable def sg78 : Sig := ⟨[.one .bool], []⟩
noncomputable def fi78 : FnI := ⟨99, bodyOf Go.Proofs.Tryz.f78, [.tmp 2],
  [],
  [(0, [.keep [1, 3, 4], .own 3 (.int .i64) false, .keepR [1, 2003]])],
  [], [], false⟩
noncomputable def sg80 : Sig := ⟨[.one (.int .i64), .one (.int .i64)], []⟩
noncomputable def fi80 : FnI := ⟨49, bodyOf Go.Proofs.Tryz.f80, [.tmp 6, .tmp 7],
  [],
  [(0, [.keep [0, 1, 2, 8, 9, 15, 16, 17], .keepR []])],
  [(9, [.keep [0, 1, 2, 8, 9, 10, 15, 16, 17], .keepR []])], [], false⟩
noncomputable def sg81 : Sig := ⟨[.agg [(.own .node false)]], []⟩
noncomputable def fi81 : FnI := ⟨4, bodyOf Go.Proofs.Tryz.f81, [.cell 0 32],
  [],
  [],
  [], [], false⟩
noncomputable def sg86 : Sig := ⟨[.one .str], []⟩
noncomputable def fi86 : FnI := ⟨37, bodyOf Go.Proofs.Tryz.f86, [.tmp 2],
  [],
  [(0, [.keep [0, 3, 4], .own 4 (.int .u8) false, .keepR [2004]])],
  [(4, [.keep [0, 3], .keepR []])], [], false⟩
noncomputable def sg87 : Sig := ⟨[.one (.int .i64), .one (.own .str false), .one (.int .i64)], []⟩
noncomputable def fi87 : FnI := ⟨64, bodyOf Go.Proofs.Tryz.f87, [.tmp 2, .tmp 3, .tmp 4],
  [],
  [(1, [.keep [0, 5, 6], .own 5 .str false, .keepR [2005]])],
  [(13, [.keep [0], .keepR []])], [], false⟩
noncomputable def sg88 : Sig := ⟨[.one (.own (.int .i64) false), .one (.int .i64)], []⟩
noncomputable def fi88 : FnI := ⟨13, bodyOf Go.Proofs.Tryz.f88, [.tmp 4, .tmp 5],
  [],
  [],
  [], [], false⟩
noncomputable def sg89 : Sig := ⟨[.one .bool], []⟩
noncomputable def fi89 : FnI := ⟨9, bodyOf Go.Proofs.Tryz.f89, [.tmp 2],
  [],
  [],
  [], [], false⟩
noncomputable def sg91 : Sig := ⟨[.one (.int .i64), .one .bool], []⟩
noncomputable def fi91 : FnI := ⟨59, bodyOf Go.Proofs.Tryz.f91, [.tmp 2, .tmp 3],
  [],
  [(0, [.keep [0, 4, 5], .keepR []])],
  [], [], false⟩
noncomputable def sg97 : Sig := ⟨[.one .bool], []⟩
noncomputable def fi97 : FnI := ⟨21, bodyOf Go.Proofs.Tryz.f97, [.tmp 4],
  [],
  [(0, [.keep [1, 7, 8, 9], .keepR []])],
  [], [], false⟩
noncomputable def sg98 : Sig := ⟨[.one .str], []⟩
noncomputable def fi98 : FnI := ⟨1, bodyOf Go.Proofs.Tryz.f98, [.tmp 0],
  [],
  [],
  [], [], false⟩
noncomputable def sg99 : Sig := ⟨[.one .bool], []⟩
noncomputable def fi99 : FnI := ⟨91, bodyOf Go.Proofs.Tryz.f99, [.tmp 6],
  [],
  [(1, [.keep [7, 8, 11, 13, 70, 71, 72], .view 8 .str, .own 11 (.int .i64) false, .view 70 .str, .keepR [3, 2011]])],
  [], [], false⟩
noncomputable def sg100 : Sig := ⟨[.one .bool], []⟩
noncomputable def fi100 : FnI := ⟨18, bodyOf Go.Proofs.Tryz.f100, [.tmp 4],
  [],
  [],
  [], [], false⟩
noncomputable def sg101 : Sig := ⟨[.one (.own (.int .i64) false)], []⟩
noncomputable def fi101 : FnI := ⟨21, bodyOf Go.Proofs.Tryz.f101, [.tmp 4],
  [],
  [(0, [.keep [0, 1, 5], .own 5 (.int .i64) false, .keepR [2005]])],
  [], [], false⟩
noncomputable def sg102 : Sig := ⟨[.one .str, .one (.int .i64)], []⟩
noncomputable def fi102 : FnI := ⟨62, bodyOf Go.Proofs.Tryz.f102, [.tmp 4, .tmp 5],
  [],
  [(0, [.keep [0, 1, 6], .bself 6, .cell 6 1 (.int .u8) false, .keepR [6]])],
  [], [], false⟩
noncomputable def sg104 : Sig := ⟨[.one (.int .i64), .one (.own .str false), .one (.int .i64)], []⟩
noncomputable def fi104 : FnI := ⟨32, bodyOf Go.Proofs.Tryz.f104, [.tmp 2, .tmp 3, .tmp 4],
  [],
  [],
  [], [], false⟩
noncomputable def sg105 : Sig := ⟨[.one (.int .i64), .one .err], []⟩
noncomputable def sg111 : Sig := ⟨[.one .bool], []⟩
noncomputable def fi111 : FnI := ⟨9, bodyOf Go.Proofs.Tryz.f111, [.tmp 2],
  [],
  [],
  [], [], false⟩
noncomputable def sg112 : Sig := ⟨[.one (.int .i64), .one (.int .i64)], []⟩
noncomputable def fi112 : FnI := ⟨48, bodyOf Go.Proofs.Tryz.f112, [.tmp 6, .tmp 7],
  [],
  [],
  [], [], false⟩
noncomputable def sg113 : Sig := ⟨[.one (.int .i64), .one (.int .i64), .one (.int .i64)], []⟩
noncomputable def fi113 : FnI := ⟨70, bodyOf Go.Proofs.Tryz.f113, [.tmp 4, .tmp 5, .tmp 6],
  [],
  [(0, [.keep [0, 1, 7, 8], .keepR []])],
  [], [], false⟩
noncomputable def sg114 : Sig := ⟨[], [(0, [.str, (.int .i64), (.own (.int .i64) false), .bool])]⟩
noncomputable def fi114 : FnI := ⟨44, bodyOf Go.Proofs.Tryz.f114, [],
  [(1000000, [.cell 1000 2 (.int .i64) false])],
  [],
  [], [38], false⟩
noncomputable def sg115 : Sig := ⟨[], [(0, [.str, (.int .i64), (.own (.int .i64) false), .bool])]⟩
noncomputable def fi115 : FnI := ⟨74, bodyOf Go.Proofs.Tryz.f115, [],
  [],
  [(0, [.keep [0, 6, 30, 31], .cell 1000 2 (.int .i64) false, .keepR [1000]]), (2, [.keep [0, 6, 7, 8, 30, 31, 37, 38], .cell 1000 2 (.int .i64) false, .keepR [1000]])],
  [], [], false⟩
noncomputable def sg117 : Sig := ⟨[.one (.int .i64)], []⟩
noncomputable def fi117 : FnI := ⟨25, bodyOf Go.Proofs.Tryz.f117, [.tmp 2],
  [],
  [],
  [(4, [.keep [0, 2], .keepR []]), (7, [.keep [0, 2], .keepR []])], [], false⟩
noncomputable def sg118 : Sig := ⟨[.one .str], []⟩
noncomputable def fi118 : FnI := ⟨7, bodyOf Go.Proofs.Tryz.f118, [.tmp 2],
  [],
  [],
  [], [], false⟩
noncomputable def sg119 : Sig := ⟨[.one .str], []⟩
noncomputable def fi119 : FnI := ⟨4, bodyOf Go.Proofs.Tryz.f119, [.tmp 2],
  [],
  [],
  [], [], false⟩
noncomputable def sg120 : Sig := ⟨[.one .str], []⟩
noncomputable def fi120 : FnI := ⟨10, bodyOf Go.Proofs.Tryz.f120, [.tmp 2],
  [],
  [],
  [], [], false⟩
noncomputable def sg121 : Sig := ⟨[.one .str], [(0, [.str, .bool])]⟩
noncomputable def fi121 : FnI := ⟨7, bodyOf Go.Proofs.Tryz.f121, [.tmp 2],
  [],
  [],
  [], [], false⟩
noncomputable def sg128 : Sig := ⟨[.one .bool], []⟩
noncomputable def fi128 : FnI := ⟨15, bodyOf Go.Proofs.Tryz.f128, [.tmp 6],
  [],
  [],
  [], [], false⟩
noncomputable def sg129 : Sig := ⟨[.one (.own (.int .i64) false)], []⟩
noncomputable def fi129 : FnI := ⟨27, bodyOf Go.Proofs.Tryz.f129, [.tmp 4],
  [],
  [(0, [.keep [1, 2, 5, 6], .own 5 (.int .i64) false, .keepR [2, 2005]])],
  [], [], false⟩
noncomputable def sg133 : Sig := ⟨[.one (.int .i64)], []⟩
noncomputable def fi133 : FnI := ⟨126, bodyOf Go.Proofs.Tryz.f133, [.tmp 6],
  [],
  [(1, [.keep [0, 1, 2, 13], .keepR []])],
  [], [], false⟩
noncomputable def sg134 : Sig := ⟨[.one (.int .i64)], []⟩
noncomputable def fi134 : FnI := ⟨27, bodyOf Go.Proofs.Tryz.f134, [.tmp 6],
  [],
  [(0, [.keep [0, 1, 2, 7], .keepR []])],
  [], [], false⟩
noncomputable def sg141 : Sig := ⟨[.one (.own (.int .i64) false), .one (.int .i64)], []⟩
noncomputable def fi141 : FnI := ⟨12, bodyOf Go.Proofs.Tryz.f141, [.tmp 4, .tmp 5],
  [],
  [],
  [], [], false⟩
noncomputable def sg142 : Sig := ⟨[.one .bool], []⟩
noncomputable def fi142 : FnI := ⟨10, bodyOf Go.Proofs.Tryz.f142, [.tmp 5],
  [],
  [],
  [], [], false⟩
noncomputable def sg143 : Sig := ⟨[.one .bool], []⟩
noncomputable def fi143 : FnI := ⟨33, bodyOf Go.Proofs.Tryz.f143, [.tmp 6],
  [],
  [(0, [.keep [0, 1, 2, 12, 13], .keepR []])],
  [], [], false⟩
noncomputable def sg144 : Sig := ⟨[.one .bool], []⟩
noncomputable def fi144 : FnI := ⟨74, bodyOf Go.Proofs.Tryz.f144, [.tmp 2],
  [],
  [(0, [.keep [1, 19, 20, 21], .keepR [1]]), (2, [.keep [1, 41, 42, 43], .keepR [1]])],
  [], [], false⟩
noncomputable def sg145 : Sig := ⟨[.one .bool], []⟩
noncomputable def fi145 : FnI := ⟨24, bodyOf Go.Proofs.Tryz.f145, [.tmp 4],
  [],
  [],
  [], [], false⟩
noncomputable def sg146 : Sig := ⟨[.one (.int .i64)], []⟩
noncomputable def fi146 : FnI := ⟨21, bodyOf Go.Proofs.Tryz.f146, [.tmp 2],
  [],
  [(0, [.keep [0, 5, 6, 7], .keepR []])],
  [], [], false⟩
noncomputable def sg147 : Sig := ⟨[.one .str, .one (.int .i64)], []⟩
noncomputable def fi147 : FnI := ⟨24, bodyOf Go.Proofs.Tryz.f147, [.tmp 2, .tmp 3],
  [],
  [(0, [.keep [0, 4], .own 4 (.int .u8) false, .keepR [2004]])],
  [], [], false⟩
noncomputable def sg148 : Sig := ⟨[.one (.int .i64)], []⟩
noncomputable def fi148 : FnI := ⟨6, bodyOf Go.Proofs.Tryz.f148, [.tmp 2],
  [],
  [],
  [], [], false⟩
noncomputable def sg149 : Sig := ⟨[.one (.int .i64)], []⟩
noncomputable def fi149 : FnI := ⟨18, bodyOf Go.Proofs.Tryz.f149, [.tmp 2],
  [],
  [(0, [.keep [0, 3], .keepR []])],
  [], [], false⟩
noncomputable def sg150 : Sig := ⟨[.one .str], []⟩
noncomputable def fi150 : FnI := ⟨45, bodyOf Go.Proofs.Tryz.f150, [.tmp 4],
  [],
  [(0, [.keep [1, 5, 18, 19, 20], .own 5 .bool false, .keepR [2005]]), (2, [.keep [1, 5, 6, 7, 18, 19, 20, 25, 26], .own 5 .bool false, .keepR [2005]])],
  [], [], false⟩
noncomputable def sg152 : Sig := ⟨[.one (.int .i64), .one (.own .str false)], [(0, [.str, .bool])]⟩
noncomputable def fi152 : FnI := ⟨65, bodyOf Go.Proofs.Tryz.f152, [.tmp 4, .tmp 5],
  [],
  [],
  [], [], false⟩
noncomputable def sg155 : Sig := ⟨[.one .bool], []⟩
noncomputable def fi155 : FnI := ⟨9, bodyOf Go.Proofs.Tryz.f155, [.tmp 2],
  [],
  [],
  [], [], false⟩
noncomputable def sg156 : Sig := ⟨[.one .str], [(0, [.str, (.int .i64), (.own (.int .i64) false), .bool])]⟩
noncomputable def fi156 : FnI := ⟨38, bodyOf Go.Proofs.Tryz.f156, [.tmp 4],
  [],
  [],
  [], [], false⟩
noncomputable def sg157 : Sig := ⟨[.one (.own (.int .i64) false)], []⟩
noncomputable def fi157 : FnI := ⟨48, bodyOf Go.Proofs.Tryz.f157, [.tmp 4],
  [],
  [(0, [.keep [7, 8], .own 7 (.int .i64) false, .keepR [2007]])],
  [(3, [.keep [0, 1], .keepR []]), (6, [.keep [0, 6], .keepR []])], [], false⟩
noncomputable def sg158 : Sig := ⟨[.one .bool], []⟩
noncomputable def fi158 : FnI := ⟨14, bodyOf Go.Proofs.Tryz.f158, [.tmp 4],
  [],
  [],
  [], [], false⟩
noncomputable def sg159 : Sig := ⟨[.one .str], []⟩
noncomputable def sg172 : Sig := ⟨[.one (.own (.int .i64) false)], []⟩
noncomputable def fi172 : FnI := ⟨32, bodyOf Go.Proofs.Tryz.f172, [.tmp 4],
  [],
  [(0, [.keep [1, 5, 11, 12, 13], .own 5 (.int .i64) false, .keepR [2005]])],
  [], [], false⟩
noncomputable def sg173 : Sig := ⟨[.one .bool], []⟩
noncomputable def fi173 : FnI := ⟨36, bodyOf Go.Proofs.Tryz.f173, [.tmp 4],
  [],
  [],
  [], [], false⟩
noncomputable def sg174 : Sig := ⟨[.one .bool], []⟩
noncomputable def fi174 : FnI := ⟨12, bodyOf Go.Proofs.Tryz.f174, [.tmp 3],
  [],
  [],
  [], [], false⟩
noncomputable def sg175 : Sig := ⟨[.one .bool], []⟩
noncomputable def fi175 : FnI := ⟨9, bodyOf Go.Proofs.Tryz.f175, [.tmp 4],
  [],
  [],
  [], [], false⟩
noncomputable def sg176 : Sig := ⟨[.one .str], []⟩
noncomputable def fi176 : FnI := ⟨31, bodyOf Go.Proofs.Tryz.f176, [.tmp 2],
  [],
  [(0, [.keep [3, 10, 11, 12], .own 3 (.int .u8) false, .keepR [2003]])],
  [], [], false⟩
noncomputable def sg177 : Sig := ⟨[.one (.int .i64), .one (.own .str false)], [(0, [.str, .bool])]⟩
noncomputable def fi177 : FnI := ⟨7, bodyOf Go.Proofs.Tryz.f177, [.tmp 2, .tmp 3],
  [],
  [],
  [], [], false⟩
noncomputable def sg178 : Sig := ⟨[.one (.int .u8)], [(0, [.str, .bool])]⟩
noncomputable def fi178 : FnI := ⟨26, bodyOf Go.Proofs.Tryz.f178, [.tmp 2],
  [],
  [],
  [], [], false⟩
noncomputable def sg179 : Sig := ⟨[.one (.int .i64), .one .str], [(0, [.str, .bool])]⟩
noncomputable def fi179 : FnI := ⟨47, bodyOf Go.Proofs.Tryz.f179, [.tmp 4, .tmp 5],
  [],
  [],
  [], [], false⟩
noncomputable def sg180 : Sig := ⟨[.one .str], [(0, [.str, .bool])]⟩
noncomputable def fi180 : FnI := ⟨42, bodyOf Go.Proofs.Tryz.f180, [.tmp 4],
  [],
  [],
  [], [], false⟩
noncomputable def sg181 : Sig := ⟨[.one (.own .str false)], [(0, [.str, .bool])]⟩
noncomputable def fi181 : FnI := ⟨53, bodyOf Go.Proofs.Tryz.f181, [.tmp 6],
  [],
  [(0, [.keep [0, 1, 2, 7], .own 7 .str false, .keepR [1000, 2007]])],
  [], [], false⟩
noncomputable def sg187 : Sig := ⟨[.one (.int .u64), .one (.int .u64)], []⟩
noncomputable def fi187 : FnI := ⟨30, bodyOf Go.Proofs.Tryz.f187, [.tmp 4, .tmp 5],
  [],
  [],
  [], [], false⟩
noncomputable def sg192 : Sig := ⟨[.one (.int .i64)], []⟩
noncomputable def fi192 : FnI := ⟨19, bodyOf Go.Proofs.Tryz.f192, [.tmp 4],
  [],
  [(0, [.keep [0, 1, 7, 8], .keepR []])],
  [], [], false⟩
noncomputable def sg193 : Sig := ⟨[.one .str, .one .str, .one .bool], []⟩
noncomputable def sg198 : Sig := ⟨[.one (.int .u64), .one (.int .u64)], []⟩
noncomputable def fi198 : FnI := ⟨51, bodyOf Go.Proofs.Tryz.f198, [.tmp 4, .tmp 5],
  [],
  [],
  [], [], false⟩
noncomputable def tyL : List (Nat × TyI) := [
  (3, ⟨false, 1, 8, [(.int .i64 0)], some .i64, false, none, 0, [], 0, [], false, false, false, false⟩),
  (4, ⟨false, 1, 1, [(.bool false)], none, false, none, 0, [], 0, [], false, true, false, false⟩),
  (5, ⟨false, 1, 1, [(.int .u8 0)], some .u8, false, none, 0, [], 0, [], false, false, false, false⟩),
  (9, ⟨false, 1, 16, [(.str [])], none, true, none, 0, [], 0, [], false, false, false, false⟩),
  (23, ⟨false, 1, 24, [.nils], none, false, some .str, 9, [(.str [])], 16, [], false, false, false, false⟩),
  (30, ⟨false, 1, 24, [.nils], none, false, some .node, 58, [(.int .i64 0), (.int .i64 0), (.bool false)], 24, [], false, false, false, false⟩),
  (32, ⟨true, 1, 24, [.nils], none, false, none, 0, [], 0, [(0, 1, 30)], false, false, false, false⟩),
  (34, ⟨false, 1, 8, [(.int .u64 0)], some .u64, false, none, 0, [], 0, [], false, false, false, false⟩),
  (40, ⟨false, 1, 24, [.nils], none, false, some (.int .i64), 3, [(.int .i64 0)], 8, [], false, false, false, false⟩),
  (42, ⟨true, 3, 72, [.nils, .nils, .nils], none, false, none, 0, [], 0, [(0, 1, 40), (1, 1, 40), (2, 1, 23)], false, false, false, false⟩),
  (55, ⟨false, 1, 24, [.nils], none, false, some (.int .u8), 5, [(.int .u8 0)], 1, [], false, false, false, false⟩),
  (58, ⟨true, 3, 24, [(.int .i64 0), (.int .i64 0), (.bool false)], none, false, none, 0, [], 0, [(0, 1, 3), (1, 1, 3), (2, 1, 4)], true, false, false, false⟩),
  (91, ⟨true, 2, 32, [.nilp, .nils], none, false, none, 0, [], 0, [(0, 1, 89), (1, 1, 55)], false, false, true, false⟩),
  (93, ⟨false, 1, 16, [.und], none, false, none, 0, [], 0, [], false, false, false, true⟩),
  (104, ⟨true, 2, 24, [(.str []), (.bool false)], none, false, none, 0, [], 0, [(0, 1, 9), (1, 1, 4)], true, false, false, false⟩),
  (119, ⟨false, 1, 4, [(.int .u32 0)], some .u32, false, none, 0, [], 0, [], false, false, false, false⟩),
  (131, ⟨false, 1, 24, [.nils], none, false, some .bool, 4, [(.bool false)], 1, [], false, false, false, false⟩),
  (148, ⟨false, 1, 8, [(.int .u64 0)], some .u64, false, none, 0, [], 0, [], false, false, false, false⟩),
  (153, ⟨true, 4, 56, [(.str []), (.int .i64 0), .nils, (.bool false)], none, false, none, 0, [], 0, [(0, 1, 9), (1, 1, 3), (2, 1, 40), (3, 1, 4)], false, false, false, false⟩),
  (179, ⟨true, 2, 24, [(.str []), (.bool false)], none, false, none, 0, [], 0, [(0, 1, 9), (1, 1, 4)], true, false, false, false⟩)]
noncomputable def pkL : List (Nat × List PK) := [
  (7, [.one (.int .i64), .one (.int .i64)]),
  (8, [.agg [(.list .node)], .one (.int .i64), .one .str]),
  (9, [.agg [(.list .node)], .one (.int .i64), .agg [(.list (.int .i64)), (.list (.int .i64)), (.list .str)], .agg [(.list (.int .i64)), (.list (.int .i64)), (.list .str)]]),
  (11, [.agg [(.list .node)], .one (.int .i64), .agg [(.list (.int .i64)), (.list (.int .i64)), (.list .str)], .one (.int .i64)]),
  (13, [.agg [(.list .node)], .one (.int .i64), .agg [(.list (.int .i64)), (.list (.int .i64)), (.list .str)], .one (.int .i64), .one (.int .i64)]),
  (20, [.one (.int .i64)]),
  (22, [.agg [(.list .node)], .one (.int .i64), .agg [(.list (.int .i64)), (.list (.int .i64)), (.list .str)]]),
  (24, [.agg [(.list .node)], .one (.int .i64), .one .str]),
  (26, [.agg [(.list (.int .i64)), (.list (.int .i64)), (.list .str)], .agg [(.list (.int .i64)), (.list (.int .i64)), (.list .str)]]),
  (28, []),
  (29, []),
  (30, [.one .str]),
  (31, [.one (.int .i64), .one (.int .i64)]),
  (32, [.agg [(.list .node)], .one (.int .i64), .agg [(.list (.int .i64)), (.list (.int .i64)), (.list .str)]]),
  (34, [.agg [(.list .node)], .one (.int .i64), .agg [(.list (.int .i64)), (.list (.int .i64)), (.list .str)], .one (.int .i64)]),
  (36, [.agg [(.list .node)], .one (.int .i64), .one (.list .str)]),
  (38, [.one (.list .str), .one (.list .str)]),
  (41, []),
  (46, [.one (.int .i64)]),
  (47, [.agg [(.list .node)], .one (.int .i64)]),
  (48, [.agg [(.list .node)], .one (.int .i64), .one .str]),
  (52, [.agg [(.list .node)], .one (.int .i64), .agg [(.list (.int .i64)), (.list (.int .i64)), (.list .str)]]),
  (53, [.agg [(.list .node)], .one (.int .i64)]),
  (54, [.one (.list (.int .i64)), .one (.int .i64)]),
  (55, [.bw 91, .one .str]),
  (56, [.one (.int .i64), .one (.int .i64)]),
  (57, [.one .str]),
  (58, [.one .str]),
  (59, [.br 91 5]),
  (60, [.agg [(.list .node)], .one (.int .i64)]),
  (64, [.agg [(.list .node)], .one (.int .i64)]),
  (65, [.one .str]),
  (66, [.rw [.str, .bool]]),
  (67, [.one .str, .one (.int .i64), .one (.int .i64)]),
  (68, [.rw [.str, .bool], .one (.int .i64)]),
  (69, [.one (.int .u64)]),
  (70, [.one (.list (.int .i64)), .one (.int .i64)]),
  (71, [.rw [.str, .bool], .one (.int .i64)]),
  (72, [.agg [(.list .node)], .one (.int .i64)]),
  (76, [.one (.list (.int .i64)), .one (.list (.int .i64))]),
  (78, [.agg [(.list .node)]]),
  (80, [.ro [(.list (.int .i64)), (.list (.int .i64)), (.list .str)], .one (.int .i64), .one (.int .i64)]),
  (81, []),
  (86, [.one (.int .i64)]),
  (87, [.one .str]),
  (88, [.agg [(.list .node)], .one (.int .i64)]),
  (89, [.one (.int .i64)]),
  (91, [.one .str]),
  (97, [.one (.list (.int .i64)), .one (.int .i64)]),
  (98, []),
  (99, [.agg [(.list .node)], .one (.int .i64), .one .str]),
  (100, [.agg [(.list .node)], .one (.int .i64)]),
  (101, [.ro [(.list .node)], .one (.int .i64)]),
  (102, [.one (.list (.int .i64)), .one (.int .i64)]),
  (104, [.one .str]),
  (105, [.one .str]),
  (111, [.one (.int .i64)]),
  (112, [.one .str, .one (.int .i64), .one (.int .i64)]),
  (113, [.one .str, .one (.int .i64)]),
  (114, [.rw [.str, (.int .i64), (.own (.int .i64) false), .bool], .one (.int .i64), .one (.int .i64)]),
  (115, [.rw [.str, (.int .i64), (.own (.int .i64) false), .bool], .one (.int .i64), .one (.int .i64)]),
  (117, [.one (.int .u64)]),
  (118, [.one (.int .i64)]),
  (119, [.one .bool]),
  (120, [.one .str]),
  (121, [.rw [.str, .bool]]),
  (128, [.one (.int .i64), .one (.int .i64), .one (.int .i64)]),
  (129, [.agg [(.list .node)], .one (.int .i64)]),
  (133, [.one .str, .one (.int .i64), .one (.int .i64)]),
  (134, [.one .str, .one (.int .i64), .one (.int .u8)]),
  (141, [.agg [(.list .node)], .one (.int .i64)]),
  (142, [.one (.int .i64), .one .str, .ro [(.list .node)]]),
  (143, [.one (.list (.int .i64)), .one (.list .str), .fn]),
  (144, [.agg [(.list .node)]]),
  (145, [.one (.list (.int .i64)), .one (.int .i64)]),
  (146, [.one (.list (.int .i64))]),
  (147, [.one (.int .i64)]),
  (148, [.one (.int .i64)]),
  (149, [.one (.list (.int .i64))]),
  (150, [.one (.list (.int .i64)), .one (.int .i64)]),
  (152, [.rw [.str, .bool], .one (.int .i64)]),
  (155, [.one (.int .i64)]),
  (156, [.rw [.str, (.int .i64), (.own (.int .i64) false), .bool], .one (.int .i64)]),
  (157, [.one (.list (.int .i64)), .one (.int .i64)]),
  (158, [.one .str, .one (.int .i64)]),
  (159, [.one (.int .i64)]),
  (172, [.ro [(.list .node)], .one (.int .i64)]),
  (173, [.ro [(.list .node)], .one (.int .i64)]),
  (174, [.one (.int .i64), .ro [(.int .i64)]]),
  (175, [.one (.list (.int .i64)), .fn]),
  (176, [.one (.list .bool)]),
  (177, [.rw [.str, .bool]]),
  (178, [.rw [.str, .bool]]),
  (179, [.rw [.str, .bool], .one .str]),
  (180, [.rw [.str, .bool], .one (.int .i64)]),
  (181, [.rw [.str, .bool], .one (.int .u8), .one (.int .i64)]),
  (187, [.one (.int .u64), .one (.int .u64)]),
  (192, [.one (.list (.int .i64)), .fn]),
  (193, [.one .str, .one .str]),
  (198, [.one (.int .u64), .one (.int .u64)])]
noncomputable def sgL : List (Nat × Sig) := [(7, sg7), (8, sg8), (9, sg9), (11, sg11), (13, sg13), (20, sg20), (22, sg22), (24, sg24), (26, sg26), (28, sg28), (29, sg29), (30, sg30), (31, sg31), (32, sg32), (34, sg34), (36, sg36), (38, sg38), (41, sg41), (46, sg46), (47, sg47), (48, sg48), (52, sg52), (53, sg53), (54, sg54), (56, sg56), (57, sg57), (58, sg58), (60, sg60), (64, sg64), (65, sg65), (66, sg66), (67, sg67), (68, sg68), (69, sg69), (70, sg70), (71, sg71), (72, sg72), (76, sg76), (78, sg78), (80, sg80), (81, sg81), (86, sg86), (87, sg87), (88, sg88), (89, sg89), (91, sg91), (97, sg97), (98, sg98), (99, sg99), (100, sg100), (101, sg101), (102, sg102), (104, sg104), (105, sg105), (111, sg111), (112, sg112), (113, sg113), (114, sg114), (115, sg115), (117, sg117), (118, sg118), (119, sg119), (120, sg120), (121, sg121), (128, sg128), (129, sg129), (133, sg133), (134, sg134), (141, sg141), (142, sg142), (143, sg143), (144, sg144), (145, sg145), (146, sg146), (147, sg147), (148, sg148), (149, sg149), (150, sg150), (152, sg152), (155, sg155), (156, sg156), (157, sg157), (158, sg158), (159, sg159), (172, sg172), (173, sg173), (174, sg174), (175, sg175), (176, sg176), (177, sg177), (178, sg178), (179, sg179), (180, sg180), (181, sg181), (187, sg187), (192, sg192), (193, sg193), (198, sg198)]
noncomputable def fnL : List (Nat × FnI) := [(7, fi7), (8, fi8), (9, fi9), (11, fi11), (13, fi13), (20, fi20), (22, fi22), (24, fi24), (26, fi26), (28, fi28), (29, fi29), (30, fi30), (31, fi31), (32, fi32), (34, fi34), (36, fi36), (38, fi38), (41, fi41), (46, fi46), (47, fi47), (48, fi48), (52, fi52), (53, fi53), (54, fi54), (56, fi56), (57, fi57), (58, fi58), (60, fi60), (64, fi64), (65, fi65), (66, fi66), (67, fi67), (68, fi68), (69, fi69), (70, fi70), (71, fi71), (72, fi72), (76, fi76), (78, fi78), (80, fi80), (81, fi81), (86, fi86), (87, fi87), (88, fi88), (89, fi89), (91, fi91), (97, fi97), (98, fi98), (99, fi99), (100, fi100), (101, fi101), (102, fi102), (104, fi104), (111, fi111), (112, fi112), (113, fi113), (114, fi114), (115, fi115), (117, fi117), (118, fi118), (119, fi119), (120, fi120), (121, fi121), (128, fi128), (129, fi129), (133, fi133), (134, fi134), (141, fi141), (142, fi142), (143, fi143), (144, fi144), (145, fi145), (146, fi146), (147, fi147), (148, fi148), (149, fi149), (150, fi150), (152, fi152), (155, fi155), (156, fi156), (157, fi157), (158, fi158), (172, fi172), (173, fi173), (174, fi174), (175, fi175), (176, fi176), (177, fi177), (178, fi178), (179, fi179), (180, fi180), (181, fi181), (187, fi187), (192, fi192), (198, fi198)]
noncomputable def pksOf (f : FuncId) : List PK := match look f pkL with | some l => l | none => []
noncomputable def sigOf (f : FuncId) : Sig := match look f sgL with | some s => s | none => ⟨[], []⟩
noncomputable def extOf (f : FuncId) (args : List Arg) : Option (sigOf f).den :=
  if h : f = 105 then h.symm ▸ (show Option (sigOf 105).den from extAtoiA args) else
  if h : f = 159 then h.symm ▸ (show Option (sigOf 159).den from extItoaA args) else
  if h : f = 193 then h.symm ▸ (show Option (sigOf 193).den from extCutA args) else
  none
noncomputable def E (bar : Bar) : Env := ⟨fun f => look f fnL, fun t => look t tyL, pksOf, sigOf, extOf, bar⟩

end Go.Proofs.YtjkokaockhecnaaGreatDoorA
