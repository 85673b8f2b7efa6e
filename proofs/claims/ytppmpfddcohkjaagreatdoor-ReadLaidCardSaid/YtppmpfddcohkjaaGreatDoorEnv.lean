/- The functions, types, parameters and results of the program, as the machine is told of them: definitions alone. -/
import Derived.Test.YtppmpfddcohkjaaGreatDoorProg
import Derived.Test.YtppmpfddcohkjaaGreatDoorExt
namespace Go.Proofs.YtppmpfddcohkjaaGreatDoorA
open Go
set_option linter.unusedVariables false

noncomputable def bodyOf (f : Func) : Code := match f.body with | some c => c | none => .skip

noncomputable def sg3 : Sig := ⟨[.one .bool], []⟩
noncomputable def fi3 : FnI := ⟨127, bodyOf Go.Proofs.Tryz.f3, [.tmp 6],
  [],
  [],
  [], [], false⟩
noncomputable def sg4 : Sig := ⟨[.one .bool], []⟩
noncomputable def fi4 : FnI := ⟨57, bodyOf Go.Proofs.Tryz.f4, [.tmp 8],
  [],
  [],
  [], [], false⟩
noncomputable def sg5 : Sig := ⟨[.one .bool], []⟩
noncomputable def fi5 : FnI := ⟨115, bodyOf Go.Proofs.Tryz.f5, [.tmp 6],
  [],
  [],
  [], [], false⟩
noncomputable def sg6 : Sig := ⟨[.one .bool], []⟩
noncomputable def fi6 : FnI := ⟨137, bodyOf Go.Proofs.Tryz.f6, [.tmp 10],
  [],
  [],
  [], [], false⟩
noncomputable def sg8 : Sig := ⟨[.one .bool], []⟩
noncomputable def fi8 : FnI := ⟨162, bodyOf Go.Proofs.Tryz.f8, [.tmp 10],
  [],
  [],
  [], [], false⟩
noncomputable def sg9 : Sig := ⟨[.one .bool], []⟩
noncomputable def fi9 : FnI := ⟨69, bodyOf Go.Proofs.Tryz.f9, [.tmp 0],
  [(3, [.froze 13 0, .froze 16 0])],
  [],
  [], [], false⟩
noncomputable def sg10 : Sig := ⟨[.one (.own .str false), .one (.int .i64)], []⟩
noncomputable def fi10 : FnI := ⟨30, bodyOf Go.Proofs.Tryz.f10, [.tmp 6, .tmp 7],
  [],
  [(0, [.keep [1, 3, 5, 8, 16, 17], .own 8 .str false, .keepR [3, 5, 2008]])],
  [], [], false⟩
noncomputable def sg11 : Sig := ⟨[.one (.int .i64)], []⟩
noncomputable def fi11 : FnI := ⟨4, bodyOf Go.Proofs.Tryz.f11, [.tmp 2],
  [],
  [],
  [], [], false⟩
noncomputable def sg12 : Sig := ⟨[.el .arr, .one (.int .i64)], []⟩
noncomputable def fi12 : FnI := ⟨96, bodyOf Go.Proofs.Tryz.f12, [.cell 6 27, .tmp 7],
  [(4, [.froze 22 0]), (18, [.froze 2013 0])],
  [(0, [.keep [1, 3, 6, 8, 12, 13, 14], .own 8 .str true, .own 13 .str false, .cell 12 6 .arr false, .cell 6 6 .arr false, .keepR [3, 6, 12, 2008, 2013]]), (2, [.keep [1, 3, 6, 8, 12, 13, 14, 15], .own 8 .str true, .own 13 .str false, .cell 12 6 .arr false, .cell 6 6 .arr false, .keepR [3, 6, 12, 2008, 2013]])],
  [], [], false⟩
noncomputable def sg13 : Sig := ⟨[.el .arr, .one (.int .i64)], []⟩
noncomputable def fi13 : FnI := ⟨76, bodyOf Go.Proofs.Tryz.f13, [.cell 6 27, .tmp 7],
  [(12, [.froze 2011 0])],
  [(0, [.keep [1, 3, 6, 8, 10, 11, 12], .own 8 .str false, .own 11 .str false, .cell 10 6 .arr false, .cell 6 6 .arr false, .keepR [3, 6, 10, 2008, 2011]])],
  [], [], false⟩
noncomputable def sg14 : Sig := ⟨[.el .arr, .one (.int .i64)], []⟩
noncomputable def fi14 : FnI := ⟨26, bodyOf Go.Proofs.Tryz.f14, [.cell 6 27, .tmp 7],
  [(4, [.froze 14 0])],
  [],
  [], [], false⟩
noncomputable def sg15 : Sig := ⟨[.one .bool], []⟩
noncomputable def fi15 : FnI := ⟨26, bodyOf Go.Proofs.Tryz.f15, [.tmp 4],
  [],
  [(0, [.keep [0, 1, 5], .keepR []])],
  [], [], false⟩
noncomputable def sg16 : Sig := ⟨[.one .bool], []⟩
noncomputable def fi16 : FnI := ⟨220, bodyOf Go.Proofs.Tryz.f16, [.tmp 6],
  [],
  [(0, [.keep [5, 7, 8, 9], .keepR [5]]), (2, [.keep [5, 7, 8, 12, 13], .keepR [5]])],
  [], [], false⟩
noncomputable def sg17 : Sig := ⟨[.el .arr], []⟩
noncomputable def fi17 : FnI := ⟨24, bodyOf Go.Proofs.Tryz.f17, [.cell 2 27],
  [],
  [(0, [.keep [1, 2, 3, 4], .own 3 .arr false, .cell 2 6 .arr false, .keepR [1, 2, 2003]])],
  [], [], false⟩
noncomputable def sg18 : Sig := ⟨[.one .bool, .one (.int .i64)], []⟩
noncomputable def fi18 : FnI := ⟨37, bodyOf Go.Proofs.Tryz.f18, [.tmp 8, .tmp 9],
  [],
  [],
  [], [], false⟩
noncomputable def sg19 : Sig := ⟨[.one .bool, .one (.int .i64)], []⟩
noncomputable def fi19 : FnI := ⟨61, bodyOf Go.Proofs.Tryz.f19, [.tmp 8, .tmp 9],
  [],
  [(0, [.keep [10, 12, 14], .own 10 .str false, .own 12 .str false, .keepR [2010, 2012]])],
  [], [], false⟩
noncomputable def sg20 : Sig := ⟨[.one .bool], []⟩
noncomputable def fi20 : FnI := ⟨74, bodyOf Go.Proofs.Tryz.f20, [.tmp 4],
  [],
  [(0, [.keep [2, 3, 5], .keepR [2, 3]])],
  [], [], false⟩
noncomputable def sg21 : Sig := ⟨[.one .bool], []⟩
noncomputable def fi21 : FnI := ⟨70, bodyOf Go.Proofs.Tryz.f21, [.tmp 0],
  [],
  [],
  [], [], false⟩
noncomputable def sg22 : Sig := ⟨[.el .arr, .one (.int .i64)], []⟩
noncomputable def fi22 : FnI := ⟨42, bodyOf Go.Proofs.Tryz.f22, [.cell 6 27, .tmp 7],
  [],
  [(0, [.keep [1, 2, 3, 6, 8], .cell 6 6 .arr false, .keepR [3, 6]])],
  [], [], false⟩
noncomputable def sg23 : Sig := ⟨[.one .str], []⟩
noncomputable def fi23 : FnI := ⟨7, bodyOf Go.Proofs.Tryz.f23, [.tmp 2],
  [],
  [],
  [], [], false⟩
noncomputable def sg24 : Sig := ⟨[.agg [(.list .node)]], []⟩
noncomputable def fi24 : FnI := ⟨4, bodyOf Go.Proofs.Tryz.f24, [.cell 0 24],
  [],
  [],
  [], [], false⟩
noncomputable def sg25 : Sig := ⟨[.el .arr, .one (.int .i64)], []⟩
noncomputable def fi25 : FnI := ⟨50, bodyOf Go.Proofs.Tryz.f25, [.cell 10 27, .tmp 11],
  [],
  [],
  [], [], false⟩
noncomputable def sg26 : Sig := ⟨[.one .str, .one (.int .i64)], []⟩
noncomputable def fi26 : FnI := ⟨30, bodyOf Go.Proofs.Tryz.f26, [.tmp 8, .tmp 9],
  [],
  [],
  [], [], false⟩
noncomputable def sg27 : Sig := ⟨[.one .bool], []⟩
noncomputable def fi27 : FnI := ⟨33, bodyOf Go.Proofs.Tryz.f27, [.tmp 6],
  [],
  [],
  [], [], false⟩
noncomputable def sg28 : Sig := ⟨[.one .str], []⟩
noncomputable def fi28 : FnI := ⟨19, bodyOf Go.Proofs.Tryz.f28, [.tmp 8],
  [],
  [],
  [], [], false⟩
noncomputable def sg29 : Sig := ⟨[.one (.own .str false), .one .bool], []⟩
noncomputable def fi29 : FnI := ⟨29, bodyOf Go.Proofs.Tryz.f29, [.tmp 6, .tmp 7],
  [],
  [],
  [], [], false⟩
noncomputable def sg30 : Sig := ⟨[.one .str], []⟩
noncomputable def fi30 : FnI := ⟨24, bodyOf Go.Proofs.Tryz.f30, [.tmp 4],
  [],
  [(0, [.keep [0, 1, 5, 6], .own 5 (.int .u8) false, .keepR [2005]])],
  [], [], false⟩
noncomputable def sg31 : Sig := ⟨[.one (.own .str false), .one (.int .i64)], []⟩
noncomputable def fi31 : FnI := ⟨30, bodyOf Go.Proofs.Tryz.f31, [.tmp 6, .tmp 7],
  [],
  [(0, [.keep [1, 3, 5, 8, 9], .own 8 .str false, .keepR [3, 5, 2008]])],
  [], [], false⟩
noncomputable def sg32 : Sig := ⟨[.el .arr, .one (.int .i64)], []⟩
noncomputable def fi32 : FnI := ⟨24, bodyOf Go.Proofs.Tryz.f32, [.cell 8 27, .tmp 9],
  [],
  [],
  [], [], false⟩
noncomputable def sg33 : Sig := ⟨[.one .bool], []⟩
noncomputable def fi33 : FnI := ⟨18, bodyOf Go.Proofs.Tryz.f33, [.tmp 4],
  [],
  [],
  [], [], false⟩
noncomputable def sg34 : Sig := ⟨[.one (.int .i64)], []⟩
noncomputable def fi34 : FnI := ⟨6, bodyOf Go.Proofs.Tryz.f34, [.tmp 2],
  [],
  [],
  [], [], false⟩
noncomputable def sg35 : Sig := ⟨[.one .bool], []⟩
noncomputable def fi35 : FnI := ⟨144, bodyOf Go.Proofs.Tryz.f35, [.tmp 8],
  [],
  [(1, [.keep [3, 4, 6, 9, 11], .own 9 (.int .i64) false, .keepR [4, 6, 2009]])],
  [], [], false⟩
noncomputable def sg36 : Sig := ⟨[.one .bool], []⟩
noncomputable def fi36 : FnI := ⟨9, bodyOf Go.Proofs.Tryz.f36, [.tmp 2],
  [],
  [],
  [], [], false⟩
noncomputable def sg37 : Sig := ⟨[.one (.int .i64), .one (.int .i64)], []⟩
noncomputable def fi37 : FnI := ⟨42, bodyOf Go.Proofs.Tryz.f37, [.tmp 6, .tmp 7],
  [],
  [],
  [], [], false⟩
noncomputable def sg38 : Sig := ⟨[.one .bool], []⟩
noncomputable def fi38 : FnI := ⟨14, bodyOf Go.Proofs.Tryz.f38, [.tmp 4],
  [],
  [],
  [], [], false⟩
noncomputable def sg39 : Sig := ⟨[.one .bool], []⟩
noncomputable def fi39 : FnI := ⟨26, bodyOf Go.Proofs.Tryz.f39, [.tmp 4],
  [],
  [(0, [.keep [0, 1, 12, 13], .keepR []])],
  [], [], false⟩
noncomputable def sg40 : Sig := ⟨[.el .arr], []⟩
noncomputable def fi40 : FnI := ⟨10, bodyOf Go.Proofs.Tryz.f40, [.cell 0 27],
  [],
  [],
  [], [5], false⟩
noncomputable def sg41 : Sig := ⟨[.one (.own .str false)], []⟩
noncomputable def fi41 : FnI := ⟨12, bodyOf Go.Proofs.Tryz.f41, [.tmp 2],
  [],
  [],
  [], [], false⟩
noncomputable def sg42 : Sig := ⟨[.one .bool], []⟩
noncomputable def fi42 : FnI := ⟨105, bodyOf Go.Proofs.Tryz.f42, [.tmp 6],
  [],
  [(0, [.keep [3, 8, 9, 11, 13], .own 9 .str false, .own 11 (.int .i64) false, .keepR [3, 2009, 2011]])],
  [], [], false⟩
noncomputable def sg43 : Sig := ⟨[.el .arr, .one .bool], []⟩
noncomputable def fi43 : FnI := ⟨222, bodyOf Go.Proofs.Tryz.f43, [.cell 6 27, .tmp 7],
  [],
  [(0, [.keep [1, 2, 3, 6, 8, 9, 11, 12, 13], .own 9 (.int .i64) false, .own 12 .bool false, .cell 6 6 .arr false, .cell 8 6 .arr false, .keepR [3, 6, 8, 40, 2009, 2012]]), (3, [.keep [1, 2, 3, 6, 8, 9, 11, 12, 13, 14, 15, 18], .own 9 (.int .i64) false, .own 12 .bool false, .own 15 .str false, .cell 6 6 .arr false, .cell 8 6 .arr false, .keepR [3, 6, 8, 40, 2009, 2012, 2015]]), (6, [.keep [3, 6, 8, 9, 11, 20], .own 9 (.int .i64) false, .cell 6 6 .arr false, .cell 8 6 .arr false, .keepR [3, 6, 8, 40, 2009]])],
  [(39, [.keep [3, 6, 8, 9, 11], .own 9 (.int .i64) false, .cell 6 6 .arr false, .cell 8 6 .arr false, .keepR [3, 6, 8, 40, 2009]])], [], false⟩
noncomputable def sg44 : Sig := ⟨[.one .str], []⟩
noncomputable def fi44 : FnI := ⟨22, bodyOf Go.Proofs.Tryz.f44, [.tmp 2],
  [],
  [(0, [.keep [0, 3], .keepR []])],
  [], [], false⟩
noncomputable def sg45 : Sig := ⟨[.el .arr], []⟩
noncomputable def fi45 : FnI := ⟨24, bodyOf Go.Proofs.Tryz.f45, [.cell 2 27],
  [],
  [(0, [.keep [1, 2, 3, 4], .own 3 .arr false, .cell 2 6 .arr false, .keepR [1, 2, 2003]])],
  [], [], false⟩
noncomputable def sg46 : Sig := ⟨[.one .bool], []⟩
noncomputable def fi46 : FnI := ⟨18, bodyOf Go.Proofs.Tryz.f46, [.tmp 4],
  [],
  [],
  [], [], false⟩
noncomputable def sg47 : Sig := ⟨[.one .bool], []⟩
noncomputable def fi47 : FnI := ⟨82, bodyOf Go.Proofs.Tryz.f47, [.tmp 4],
  [],
  [],
  [], [], false⟩
noncomputable def sg48 : Sig := ⟨[.one .bool], []⟩
noncomputable def fi48 : FnI := ⟨162, bodyOf Go.Proofs.Tryz.f48, [.tmp 6],
  [],
  [(0, [.keep [0, 1, 2, 7, 38, 39, 40], .own 38 (.int .i64) false, .keepR [7, 2038]])],
  [], [], false⟩
noncomputable def sg49 : Sig := ⟨[.one .bool], []⟩
noncomputable def fi49 : FnI := ⟨87, bodyOf Go.Proofs.Tryz.f49, [.tmp 6],
  [],
  [(0, [.keep [2, 7, 9], .keepR []])],
  [], [], false⟩
noncomputable def sg50 : Sig := ⟨[.one .bool], []⟩
noncomputable def fi50 : FnI := ⟨78, bodyOf Go.Proofs.Tryz.f50, [.tmp 6],
  [],
  [(0, [.keep [2, 9, 45, 46], .keepR []])],
  [], [], false⟩
noncomputable def sg51 : Sig := ⟨[.one .str], []⟩
noncomputable def fi51 : FnI := ⟨58, bodyOf Go.Proofs.Tryz.f51, [.tmp 8],
  [],
  [],
  [], [], false⟩
noncomputable def sg52 : Sig := ⟨[.one .str], []⟩
noncomputable def fi52 : FnI := ⟨167, bodyOf Go.Proofs.Tryz.f52, [.tmp 8],
  [],
  [(0, [.keep [1, 3, 4, 6, 9], .keepR [4, 6]]), (3, [.keep [4, 6, 10, 12, 16, 17], .own 10 (.int .i64) false, .own 12 .str false, .keepR [4, 6, 2010, 2012]]), (5, [.keep [3, 4, 6, 10, 12, 18], .own 10 (.int .i64) false, .own 12 .str false, .keepR [4, 6, 2010, 2012]])],
  [], [], false⟩
noncomputable def sg53 : Sig := ⟨[.one .bool], []⟩
noncomputable def fi53 : FnI := ⟨99, bodyOf Go.Proofs.Tryz.f53, [.tmp 2],
  [],
  [(0, [.keep [1, 3, 4], .own 3 (.int .i64) false, .keepR [1, 2003]])],
  [], [], false⟩
noncomputable def sg54 : Sig := ⟨[.one (.own (.int .i64) false), .one (.int .i64)], []⟩
noncomputable def fi54 : FnI := ⟨13, bodyOf Go.Proofs.Tryz.f54, [.tmp 4, .tmp 5],
  [],
  [],
  [], [], false⟩
noncomputable def sg55 : Sig := ⟨[.one .bool], []⟩
noncomputable def fi55 : FnI := ⟨12, bodyOf Go.Proofs.Tryz.f55, [.tmp 2],
  [],
  [],
  [], [], false⟩
noncomputable def sg56 : Sig := ⟨[.one .bool], []⟩
noncomputable def fi56 : FnI := ⟨52, bodyOf Go.Proofs.Tryz.f56, [.tmp 10],
  [],
  [(0, [.keep [0, 1, 2, 3, 4, 11, 12], .keepR []])],
  [], [], false⟩
noncomputable def sg57 : Sig := ⟨[.one (.int .i64)], []⟩
noncomputable def fi57 : FnI := ⟨21, bodyOf Go.Proofs.Tryz.f57, [.tmp 2],
  [],
  [(0, [.keep [0, 3, 4], .keepR []])],
  [], [], false⟩
noncomputable def sg58 : Sig := ⟨[.one .bool], []⟩
noncomputable def fi58 : FnI := ⟨5, bodyOf Go.Proofs.Tryz.f58, [.tmp 2],
  [],
  [],
  [], [], false⟩
noncomputable def sg59 : Sig := ⟨[.one .bool], []⟩
noncomputable def fi59 : FnI := ⟨14, bodyOf Go.Proofs.Tryz.f59, [.tmp 4],
  [],
  [],
  [], [], false⟩
noncomputable def sg60 : Sig := ⟨[.one (.int .i64), .one (.own .str false), .one (.int .i64)], []⟩
noncomputable def fi60 : FnI := ⟨64, bodyOf Go.Proofs.Tryz.f60, [.tmp 2, .tmp 3, .tmp 4],
  [],
  [(1, [.keep [0, 5, 6], .own 5 .str false, .keepR [2005]])],
  [(13, [.keep [0], .keepR []])], [], false⟩
noncomputable def sg61 : Sig := ⟨[.one .str], []⟩
noncomputable def fi61 : FnI := ⟨31, bodyOf Go.Proofs.Tryz.f61, [.tmp 2],
  [],
  [(0, [.keep [0, 3, 4, 5], .own 3 .bool false, .keepR [2003]])],
  [], [], false⟩
noncomputable def sg62 : Sig := ⟨[.one (.int .i64), .one .bool], []⟩
noncomputable def fi62 : FnI := ⟨59, bodyOf Go.Proofs.Tryz.f62, [.tmp 2, .tmp 3],
  [],
  [(0, [.keep [0, 4, 5], .keepR []])],
  [], [], false⟩
noncomputable def sg63 : Sig := ⟨[.one .str], []⟩
noncomputable def fi63 : FnI := ⟨18, bodyOf Go.Proofs.Tryz.f63, [.tmp 2],
  [],
  [(0, [.keep [0, 3, 4], .keepR []])],
  [], [], false⟩
noncomputable def sg64 : Sig := ⟨[.one .str], []⟩
noncomputable def fi64 : FnI := ⟨52, bodyOf Go.Proofs.Tryz.f64, [.tmp 4],
  [],
  [(1, [.keep [2, 5, 7, 8], .own 5 (.int .i64) false, .own 7 .str false, .keepR [2, 2005, 2007]])],
  [], [], false⟩
noncomputable def sg65 : Sig := ⟨[.one .str], []⟩
noncomputable def fi65 : FnI := ⟨34, bodyOf Go.Proofs.Tryz.f65, [.tmp 2],
  [],
  [(0, [.keep [0, 3, 4], .own 3 (.int .u8) false, .keepR [2003]])],
  [], [], false⟩
noncomputable def sg66 : Sig := ⟨[.one .str], []⟩
noncomputable def fi66 : FnI := ⟨37, bodyOf Go.Proofs.Tryz.f66, [.tmp 2],
  [],
  [(0, [.keep [0, 3, 4], .own 4 (.int .u8) false, .keepR [2004]])],
  [(4, [.keep [0, 3], .keepR []])], [], false⟩
noncomputable def sg67 : Sig := ⟨[.one .bool], []⟩
noncomputable def fi67 : FnI := ⟨74, bodyOf Go.Proofs.Tryz.f67, [.tmp 2],
  [],
  [(0, [.keep [1, 19, 20, 21], .keepR [1]]), (2, [.keep [1, 41, 42, 43], .keepR [1]])],
  [], [], false⟩
noncomputable def sg68 : Sig := ⟨[.one (.int .i64)], []⟩
noncomputable def fi68 : FnI := ⟨6, bodyOf Go.Proofs.Tryz.f68, [.tmp 2],
  [],
  [],
  [], [], false⟩
noncomputable def sg69 : Sig := ⟨[.one (.own (.int .i64) false), .one (.int .i64)], []⟩
noncomputable def fi69 : FnI := ⟨12, bodyOf Go.Proofs.Tryz.f69, [.tmp 4, .tmp 5],
  [],
  [],
  [], [], false⟩
noncomputable def sg70 : Sig := ⟨[.one .bool], []⟩
noncomputable def fi70 : FnI := ⟨56, bodyOf Go.Proofs.Tryz.f70, [.tmp 10],
  [],
  [(0, [.keep [0, 2, 3, 4, 11, 16, 17], .keepR []])],
  [], [], false⟩
noncomputable def sg71 : Sig := ⟨[.one .bool], []⟩
noncomputable def fi71 : FnI := ⟨8, bodyOf Go.Proofs.Tryz.f71, [.tmp 3],
  [],
  [],
  [], [], false⟩
noncomputable def sg72 : Sig := ⟨[.one .bool], []⟩
noncomputable def fi72 : FnI := ⟨9, bodyOf Go.Proofs.Tryz.f72, [.tmp 4],
  [],
  [],
  [], [], false⟩
noncomputable def sg73 : Sig := ⟨[.ptr .arr, .one .bool], []⟩
noncomputable def fi73 : FnI := ⟨54, bodyOf Go.Proofs.Tryz.f73, [.tmp 6, .tmp 7],
  [],
  [],
  [], [], false⟩
noncomputable def sg74 : Sig := ⟨[.one (.int .i64), .one .bool], []⟩
noncomputable def fi74 : FnI := ⟨18, bodyOf Go.Proofs.Tryz.f74, [.tmp 4, .tmp 5],
  [],
  [],
  [], [], false⟩
noncomputable def sg75 : Sig := ⟨[.one .bool], []⟩
noncomputable def fi75 : FnI := ⟨18, bodyOf Go.Proofs.Tryz.f75, [.tmp 4],
  [],
  [],
  [], [], false⟩
noncomputable def sg76 : Sig := ⟨[.one .str], []⟩
noncomputable def fi76 : FnI := ⟨1, bodyOf Go.Proofs.Tryz.f76, [.tmp 0],
  [],
  [],
  [], [], false⟩
noncomputable def sg77 : Sig := ⟨[.one (.int .i64)], []⟩
noncomputable def fi77 : FnI := ⟨23, bodyOf Go.Proofs.Tryz.f77, [.tmp 4],
  [],
  [(0, [.keep [0, 1, 5], .keepR []])],
  [], [], false⟩
noncomputable def sg78 : Sig := ⟨[.one .str], []⟩
noncomputable def fi78 : FnI := ⟨139, bodyOf Go.Proofs.Tryz.f78, [.tmp 8],
  [],
  [(2, [.keep [2, 4, 9, 13, 15, 16], .own 9 (.int .i64) false, .own 15 .str false, .keepR [4, 2009, 2015]]), (4, [.keep [2, 3, 4, 15, 116, 117, 118], .own 15 .str false, .own 116 (.int .i64) false, .keepR [4, 2015, 2116]])],
  [], [], false⟩
noncomputable def sg79 : Sig := ⟨[.one .str], []⟩
noncomputable def fi79 : FnI := ⟨4, bodyOf Go.Proofs.Tryz.f79, [.tmp 2],
  [],
  [],
  [], [], false⟩
noncomputable def sg80 : Sig := ⟨[.one (.int .i64), .one (.int .i64)], []⟩
noncomputable def fi80 : FnI := ⟨25, bodyOf Go.Proofs.Tryz.f80, [.tmp 4, .tmp 5],
  [],
  [],
  [], [], false⟩
noncomputable def sg81 : Sig := ⟨[.one .str], []⟩
noncomputable def fi81 : FnI := ⟨10, bodyOf Go.Proofs.Tryz.f81, [.tmp 2],
  [],
  [],
  [], [], false⟩
noncomputable def sg82 : Sig := ⟨[.one .str], []⟩
noncomputable def fi82 : FnI := ⟨7, bodyOf Go.Proofs.Tryz.f82, [.tmp 2],
  [],
  [],
  [], [], false⟩
noncomputable def sg83 : Sig := ⟨[.one .str], []⟩
noncomputable def fi83 : FnI := ⟨7, bodyOf Go.Proofs.Tryz.f83, [.tmp 2],
  [],
  [],
  [], [], false⟩
noncomputable def sg84 : Sig := ⟨[.one .bool], []⟩
noncomputable def fi84 : FnI := ⟨15, bodyOf Go.Proofs.Tryz.f84, [.tmp 6],
  [],
  [],
  [], [], false⟩
noncomputable def sg85 : Sig := ⟨[.one (.own (.int .i64) false)], []⟩
noncomputable def fi85 : FnI := ⟨27, bodyOf Go.Proofs.Tryz.f85, [.tmp 4],
  [],
  [(0, [.keep [1, 2, 5, 6], .own 5 (.int .i64) false, .keepR [2, 2005]])],
  [], [], false⟩
noncomputable def sg86 : Sig := ⟨[.one (.int .i64)], []⟩
noncomputable def fi86 : FnI := ⟨126, bodyOf Go.Proofs.Tryz.f86, [.tmp 6],
  [],
  [(1, [.keep [0, 1, 2, 13], .keepR []])],
  [], [], false⟩
noncomputable def sg87 : Sig := ⟨[.one (.int .i64)], []⟩
noncomputable def fi87 : FnI := ⟨27, bodyOf Go.Proofs.Tryz.f87, [.tmp 6],
  [],
  [(0, [.keep [0, 1, 2, 7], .keepR []])],
  [], [], false⟩
noncomputable def sg88 : Sig := ⟨[.one .bool], []⟩
noncomputable def fi88 : FnI := ⟨36, bodyOf Go.Proofs.Tryz.f88, [.tmp 4],
  [],
  [],
  [], [], false⟩
noncomputable def sg89 : Sig := ⟨[.one (.own (.int .i64) false)], []⟩
noncomputable def fi89 : FnI := ⟨32, bodyOf Go.Proofs.Tryz.f89, [.tmp 4],
  [],
  [(0, [.keep [1, 5, 11, 12, 13], .own 5 (.int .i64) false, .keepR [2005]])],
  [], [], false⟩
noncomputable def sg90 : Sig := ⟨[.one (.own (.int .i64) false)], []⟩
noncomputable def fi90 : FnI := ⟨21, bodyOf Go.Proofs.Tryz.f90, [.tmp 4],
  [],
  [(0, [.keep [0, 1, 5], .own 5 (.int .i64) false, .keepR [2005]])],
  [], [], false⟩
noncomputable def sg91 : Sig := ⟨[.one (.int .i64)], []⟩
noncomputable def fi91 : FnI := ⟨19, bodyOf Go.Proofs.Tryz.f91, [.tmp 4],
  [],
  [(0, [.keep [0, 1, 7, 8], .keepR []])],
  [], [], false⟩
noncomputable def sg92 : Sig := ⟨[.one .bool], []⟩
noncomputable def fi92 : FnI := ⟨9, bodyOf Go.Proofs.Tryz.f92, [.tmp 2],
  [],
  [],
  [], [], false⟩
noncomputable def sg93 : Sig := ⟨[.one (.int .i64), .one (.int .i64)], []⟩
noncomputable def fi93 : FnI := ⟨48, bodyOf Go.Proofs.Tryz.f93, [.tmp 6, .tmp 7],
  [],
  [],
  [], [], false⟩
noncomputable def sg94 : Sig := ⟨[.one .bool], []⟩
noncomputable def fi94 : FnI := ⟨14, bodyOf Go.Proofs.Tryz.f94, [.tmp 4],
  [],
  [],
  [], [], false⟩
noncomputable def sg95 : Sig := ⟨[.one .str], []⟩
noncomputable def fi95 : FnI := ⟨7, bodyOf Go.Proofs.Tryz.f95, [.tmp 2],
  [],
  [],
  [], [], false⟩
noncomputable def sg96 : Sig := ⟨[.one (.int .i64)], []⟩
noncomputable def fi96 : FnI := ⟨22, bodyOf Go.Proofs.Tryz.f96, [.tmp 2],
  [],
  [(0, [.keep [0, 3, 6, 7], .keepR []])],
  [], [], false⟩
noncomputable def sg97 : Sig := ⟨[.one .str], []⟩
noncomputable def fi97 : FnI := ⟨4, bodyOf Go.Proofs.Tryz.f97, [.tmp 2],
  [],
  [],
  [], [], false⟩
noncomputable def sg98 : Sig := ⟨[.one .str], []⟩
noncomputable def fi98 : FnI := ⟨10, bodyOf Go.Proofs.Tryz.f98, [.tmp 2],
  [],
  [],
  [], [], false⟩
noncomputable def sg99 : Sig := ⟨[.one .str], []⟩
noncomputable def fi99 : FnI := ⟨7, bodyOf Go.Proofs.Tryz.f99, [.tmp 2],
  [],
  [],
  [], [], false⟩
noncomputable def sg100 : Sig := ⟨[.one .str], []⟩
noncomputable def fi100 : FnI := ⟨7, bodyOf Go.Proofs.Tryz.f100, [.tmp 2],
  [],
  [],
  [], [], false⟩
noncomputable def sg101 : Sig := ⟨[.one .bool], []⟩
noncomputable def fi101 : FnI := ⟨9, bodyOf Go.Proofs.Tryz.f101, [.tmp 2],
  [],
  [],
  [], [], false⟩
noncomputable def sg102 : Sig := ⟨[.one .str], []⟩
noncomputable def sg103 : Sig := ⟨[.one .str], []⟩
noncomputable def tyL : List (Nat × TyI) := [
  (3, ⟨false, 1, 8, [(.int .i64 0)], some .i64, false, none, 0, [], 0, [], false, false⟩),
  (4, ⟨false, 1, 1, [(.bool false)], none, false, none, 0, [], 0, [], false, true⟩),
  (5, ⟨false, 1, 1, [(.int .u8 0)], some .u8, false, none, 0, [], 0, [], false, false⟩),
  (9, ⟨false, 1, 16, [(.str [])], none, true, none, 0, [], 0, [], false, false⟩),
  (22, ⟨false, 1, 24, [.nils], none, false, some .node, 54, [(.int .i64 0), (.int .i64 0), (.bool false)], 24, [], false, false⟩),
  (24, ⟨true, 1, 24, [.nils], none, false, none, 0, [], 0, [(0, 1, 22)], false, false⟩),
  (25, ⟨false, 1, 24, [.nils], none, false, some .arr, 27, [(.int .i64 0), (.int .i64 0), (.int .i64 0), (.str []), (.str []), (.str []), .nils], 96, [], false, false⟩),
  (27, ⟨true, 7, 96, [(.int .i64 0), (.int .i64 0), (.int .i64 0), (.str []), (.str []), (.str []), .nils], none, false, none, 0, [], 0, [(0, 1, 3), (1, 1, 3), (2, 1, 3), (3, 1, 9), (4, 1, 9), (5, 1, 9), (6, 1, 25)], false, false⟩),
  (29, ⟨false, 1, 24, [.nils], none, false, some .str, 9, [(.str [])], 16, [], false, false⟩),
  (49, ⟨false, 1, 8, [(.int .u64 0)], some .u64, false, none, 0, [], 0, [], false, false⟩),
  (54, ⟨true, 3, 24, [(.int .i64 0), (.int .i64 0), (.bool false)], none, false, none, 0, [], 0, [(0, 1, 3), (1, 1, 3), (2, 1, 4)], true, false⟩),
  (58, ⟨true, 1, 24, [.nils], none, false, none, 0, [], 0, [(0, 1, 24)], false, false⟩),
  (83, ⟨false, 1, 24, [.nils], none, false, some (.int .u8), 5, [(.int .u8 0)], 1, [], false, false⟩),
  (86, ⟨false, 1, 24, [.nils], none, false, some (.int .i64), 3, [(.int .i64 0)], 8, [], false, false⟩),
  (96, ⟨false, 1, 24, [.nils], none, false, some (.list .str), 29, [.nils], 24, [], false, false⟩),
  (97, ⟨false, 1, 24, [.nils], none, false, some .bool, 4, [(.bool false)], 1, [], false, false⟩),
  (115, ⟨false, 1, 8, [(.int .u64 0)], some .u64, false, none, 0, [], 0, [], false, false⟩)]
noncomputable def pkL : List (Nat × List PK) := [
  (3, [.agg [(.list .node)], .one (.int .i64), .agg [(.int .i64), (.int .i64), (.int .i64), .str, .str, .str, (.list .arr)]]),
  (4, [.agg [(.list .node)], .one (.int .i64), .agg [(.int .i64), (.int .i64), (.int .i64), .str, .str, .str, (.list .arr)], .agg [(.int .i64), (.int .i64), (.int .i64), .str, .str, .str, (.list .arr)]]),
  (5, [.agg [(.list .node)], .one (.int .i64), .agg [(.int .i64), (.int .i64), (.int .i64), .str, .str, .str, (.list .arr)]]),
  (6, [.agg [(.list .node)], .one (.int .i64), .agg [(.int .i64), (.int .i64), (.int .i64), .str, .str, .str, (.list .arr)], .agg [(.int .i64), (.int .i64), (.int .i64), .str, .str, .str, (.list .arr)], .one (.list .str)]),
  (8, [.agg [(.list .node)], .one (.int .i64), .agg [(.int .i64), (.int .i64), (.int .i64), .str, .str, .str, (.list .arr)], .one (.list .str), .one (.int .i64)]),
  (9, []),
  (10, [.agg [(.list .node)], .one (.int .i64), .agg [(.int .i64), (.int .i64), (.int .i64), .str, .str, .str, (.list .arr)]]),
  (11, [.one (.int .i64)]),
  (12, [.agg [(.list .node)], .one (.int .i64), .agg [(.int .i64), (.int .i64), (.int .i64), .str, .str, .str, (.list .arr)]]),
  (13, [.agg [(.list .node)], .one (.int .i64), .agg [(.int .i64), (.int .i64), (.int .i64), .str, .str, .str, (.list .arr)]]),
  (14, [.agg [(.list .node)], .one (.int .i64), .agg [(.int .i64), (.int .i64), (.int .i64), .str, .str, .str, (.list .arr)]]),
  (15, [.one (.list .str), .one (.list .str)]),
  (16, [.agg [(.list .node)], .one (.int .i64), .agg [(.int .i64), (.int .i64), (.int .i64), .str, .str, .str, (.list .arr)]]),
  (17, [.agg [(.int .i64), (.int .i64), (.int .i64), .str, .str, .str, (.list .arr)]]),
  (18, [.agg [(.list .node)], .one (.int .i64), .agg [(.int .i64), (.int .i64), (.int .i64), .str, .str, .str, (.list .arr)], .agg [(.int .i64), (.int .i64), (.int .i64), .str, .str, .str, (.list .arr)]]),
  (19, [.agg [(.list .node)], .one (.int .i64), .agg [(.int .i64), (.int .i64), (.int .i64), .str, .str, .str, (.list .arr)], .agg [(.int .i64), (.int .i64), (.int .i64), .str, .str, .str, (.list .arr)]]),
  (20, [.agg [(.int .i64), (.int .i64), (.int .i64), .str, .str, .str, (.list .arr)], .agg [(.int .i64), (.int .i64), (.int .i64), .str, .str, .str, (.list .arr)]]),
  (21, []),
  (22, [.agg [(.list .node)], .one (.int .i64), .one (.list .str)]),
  (23, [.one (.int .i64)]),
  (24, []),
  (25, [.agg [(.list .node)], .one (.int .i64), .agg [(.int .i64), (.int .i64), (.int .i64), .str, .str, .str, (.list .arr)], .one (.int .i64), .one (.int .i64)]),
  (26, [.agg [(.list .node)], .one (.int .i64), .agg [(.int .i64), (.int .i64), (.int .i64), .str, .str, .str, (.list .arr)], .one (.int .i64)]),
  (27, [.agg [(.list .node)], .one (.int .i64), .agg [(.int .i64), (.int .i64), (.int .i64), .str, .str, .str, (.list .arr)]]),
  (28, [.agg [(.list .node)], .one (.int .i64), .ro [(.int .i64), (.int .i64), (.int .i64), .str, .str, .str, (.list .arr)], .one (.int .i64)]),
  (29, [.agg [(.list .node)], .one (.int .i64), .agg [(.int .i64), (.int .i64), (.int .i64), .str, .str, .str, (.list .arr)]]),
  (30, [.one (.int .i64), .one (.int .i64)]),
  (31, [.agg [(.list .node)], .one (.int .i64), .agg [(.int .i64), (.int .i64), (.int .i64), .str, .str, .str, (.list .arr)]]),
  (32, [.agg [(.list .node)], .one (.int .i64), .one (.list .str), .one (.int .i64)]),
  (33, [.agg [(.list .node)], .one (.int .i64)]),
  (34, [.one (.int .i64)]),
  (35, [.agg [(.list .node)], .one (.int .i64), .agg [(.int .i64), (.int .i64), (.int .i64), .str, .str, .str, (.list .arr)], .one (.int .i64)]),
  (36, [.one (.int .i64)]),
  (37, [.one .str, .one (.int .i64), .one (.int .i64)]),
  (38, [.agg [(.int .i64), (.int .i64), (.int .i64), .str, .str, .str, (.list .arr)], .one (.int .i64)]),
  (39, [.one (.list .str), .one (.list .str)]),
  (40, []),
  (41, [.agg [(.int .i64), (.int .i64), (.int .i64), .str, .str, .str, (.list .arr)]]),
  (42, [.agg [(.list .node)], .one (.int .i64), .one .str]),
  (43, [.agg [(.list .node)], .one (.int .i64), .one (.list .str)]),
  (44, [.one (.int .i64)]),
  (45, [.agg [(.int .i64), (.int .i64), (.int .i64), .str, .str, .str, (.list .arr)]]),
  (46, [.agg [(.list .node)], .one (.int .i64)]),
  (47, [.ro [(.int .i64), (.int .i64), .bool], .ro [(.int .i64), (.int .i64), (.int .i64), .str, .str, .str, (.list .arr)]]),
  (48, [.ro [(.list .node)], .one (.int .i64), .ro [(.int .i64), (.int .i64), (.int .i64), .str, .str, .str, (.list .arr)]]),
  (49, [.ro [(.list .node)], .one (.int .i64), .ro [(.int .i64), (.int .i64), (.int .i64), .str, .str, .str, (.list .arr)]]),
  (50, [.ro [(.list .node)], .one (.int .i64), .ro [(.int .i64), (.int .i64), (.int .i64), .str, .str, .str, (.list .arr)]]),
  (51, [.agg [(.list .node)], .one (.int .i64), .ro [(.int .i64), (.int .i64), (.int .i64), .str, .str, .str, (.list .arr)], .one (.int .i64)]),
  (52, [.agg [(.list .node)], .one (.int .i64), .agg [(.int .i64), (.int .i64), (.int .i64), .str, .str, .str, (.list .arr)], .one (.int .i64)]),
  (53, [.agg [(.list .node)]]),
  (54, [.agg [(.list .node)], .one (.int .i64)]),
  (55, [.agg [(.int .i64), (.int .i64), (.int .i64), .str, .str, .str, (.list .arr)]]),
  (56, [.one .str, .one (.int .i64), .one (.int .i64), .one (.int .i64), .one (.int .i64)]),
  (57, [.one .str]),
  (58, [.one (.int .i64)]),
  (59, [.one .str, .one (.int .i64)]),
  (60, [.one .str]),
  (61, [.one (.list .str)]),
  (62, [.one .str]),
  (63, [.one (.list .str)]),
  (64, [.agg [(.list .node)], .one (.int .i64)]),
  (65, [.one (.list .bool)]),
  (66, [.one (.int .i64)]),
  (67, [.agg [(.list .node)]]),
  (68, [.one (.int .i64)]),
  (69, [.agg [(.list .node)], .one (.int .i64)]),
  (70, [.one .str, .one (.int .i64), .one (.int .i64), .one (.int .i64), .one (.int .i64)]),
  (71, [.agg [(.int .i64), (.int .i64), (.int .i64), .str, .str, .str, (.list .arr)], .ro [(.int .i64)]]),
  (72, [.one (.list .arr), .fn]),
  (73, [.ro [(.list .node)], .one (.int .i64), .ro [(.int .i64), (.int .i64), (.int .i64), .str, .str, .str, (.list .arr)]]),
  (74, [.one .str, .one (.int .i64)]),
  (75, [.ro [(.int .i64), (.int .i64), (.int .i64), .str, .str, .str, (.list .arr)], .one (.int .i64)]),
  (76, []),
  (77, [.ro [(.int .i64), (.int .i64), (.int .i64), .str, .str, .str, (.list .arr)], .one (.int .i64)]),
  (78, [.agg [(.list .node)], .one (.int .i64), .ro [(.int .i64), (.int .i64), (.int .i64), .str, .str, .str, (.list .arr)], .one (.int .i64)]),
  (79, [.one .bool]),
  (80, [.agg [(.int .i64), (.int .i64), (.int .i64), .str, .str, .str, (.list .arr)], .one (.int .i64)]),
  (81, [.one .str]),
  (82, [.one (.list .str)]),
  (83, [.one (.list .str)]),
  (84, [.one (.int .i64), .one (.int .i64), .one (.int .i64)]),
  (85, [.agg [(.list .node)], .one (.int .i64)]),
  (86, [.one .str, .one (.int .i64), .one (.int .i64)]),
  (87, [.one .str, .one (.int .i64), .one (.int .u8)]),
  (88, [.ro [(.list .node)], .one (.int .i64)]),
  (89, [.ro [(.list .node)], .one (.int .i64)]),
  (90, [.ro [(.list .node)], .one (.int .i64)]),
  (91, [.one (.list .arr), .fn]),
  (92, [.one (.int .i64)]),
  (93, [.one .str, .one (.int .i64), .one (.int .i64)]),
  (94, [.one .str, .one (.int .i64)]),
  (95, [.one (.int .i64)]),
  (96, [.one .str]),
  (97, [.one .bool]),
  (98, [.one .str]),
  (99, [.one (.list .str)]),
  (100, [.one (.list .str)]),
  (101, [.one (.int .i64)]),
  (102, [.one (.int .i64)]),
  (103, [.one (.list .str), .one .str])]
noncomputable def sgL : List (Nat × Sig) := [(3, sg3), (4, sg4), (5, sg5), (6, sg6), (8, sg8), (9, sg9), (10, sg10), (11, sg11), (12, sg12), (13, sg13), (14, sg14), (15, sg15), (16, sg16), (17, sg17), (18, sg18), (19, sg19), (20, sg20), (21, sg21), (22, sg22), (23, sg23), (24, sg24), (25, sg25), (26, sg26), (27, sg27), (28, sg28), (29, sg29), (30, sg30), (31, sg31), (32, sg32), (33, sg33), (34, sg34), (35, sg35), (36, sg36), (37, sg37), (38, sg38), (39, sg39), (40, sg40), (41, sg41), (42, sg42), (43, sg43), (44, sg44), (45, sg45), (46, sg46), (47, sg47), (48, sg48), (49, sg49), (50, sg50), (51, sg51), (52, sg52), (53, sg53), (54, sg54), (55, sg55), (56, sg56), (57, sg57), (58, sg58), (59, sg59), (60, sg60), (61, sg61), (62, sg62), (63, sg63), (64, sg64), (65, sg65), (66, sg66), (67, sg67), (68, sg68), (69, sg69), (70, sg70), (71, sg71), (72, sg72), (73, sg73), (74, sg74), (75, sg75), (76, sg76), (77, sg77), (78, sg78), (79, sg79), (80, sg80), (81, sg81), (82, sg82), (83, sg83), (84, sg84), (85, sg85), (86, sg86), (87, sg87), (88, sg88), (89, sg89), (90, sg90), (91, sg91), (92, sg92), (93, sg93), (94, sg94), (95, sg95), (96, sg96), (97, sg97), (98, sg98), (99, sg99), (100, sg100), (101, sg101), (102, sg102), (103, sg103)]
noncomputable def fnL : List (Nat × FnI) := [(3, fi3), (4, fi4), (5, fi5), (6, fi6), (8, fi8), (9, fi9), (10, fi10), (11, fi11), (12, fi12), (13, fi13), (14, fi14), (15, fi15), (16, fi16), (17, fi17), (18, fi18), (19, fi19), (20, fi20), (21, fi21), (22, fi22), (23, fi23), (24, fi24), (25, fi25), (26, fi26), (27, fi27), (28, fi28), (29, fi29), (30, fi30), (31, fi31), (32, fi32), (33, fi33), (34, fi34), (35, fi35), (36, fi36), (37, fi37), (38, fi38), (39, fi39), (40, fi40), (41, fi41), (42, fi42), (43, fi43), (44, fi44), (45, fi45), (46, fi46), (47, fi47), (48, fi48), (49, fi49), (50, fi50), (51, fi51), (52, fi52), (53, fi53), (54, fi54), (55, fi55), (56, fi56), (57, fi57), (58, fi58), (59, fi59), (60, fi60), (61, fi61), (62, fi62), (63, fi63), (64, fi64), (65, fi65), (66, fi66), (67, fi67), (68, fi68), (69, fi69), (70, fi70), (71, fi71), (72, fi72), (73, fi73), (74, fi74), (75, fi75), (76, fi76), (77, fi77), (78, fi78), (79, fi79), (80, fi80), (81, fi81), (82, fi82), (83, fi83), (84, fi84), (85, fi85), (86, fi86), (87, fi87), (88, fi88), (89, fi89), (90, fi90), (91, fi91), (92, fi92), (93, fi93), (94, fi94), (95, fi95), (96, fi96), (97, fi97), (98, fi98), (99, fi99), (100, fi100), (101, fi101)]
noncomputable def pksOf (f : FuncId) : List PK := match look f pkL with | some l => l | none => []
noncomputable def sigOf (f : FuncId) : Sig := match look f sgL with | some s => s | none => ⟨[], []⟩
noncomputable def extOf (f : FuncId) (args : List Arg) : Option (sigOf f).den :=
  if h : f = 102 then h.symm ▸ (show Option (sigOf 102).den from extItoaA args) else
  if h : f = 103 then h.symm ▸ (show Option (sigOf 103).den from extJoinA args) else
  none
noncomputable def E (bar : Bar) : Env := ⟨fun f => look f fnL, fun t => look t tyL, pksOf, sigOf, extOf, bar⟩

end Go.Proofs.YtppmpfddcohkjaaGreatDoorA
