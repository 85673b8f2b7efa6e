/- The functions, types, parameters and results of the program, as the machine is told of them: definitions alone. -/
import Derived.Test.YtppmpfddcohkjaaDoorProg
import Derived.Test.YtppmpfddcohkjaaDoorExt
namespace Go.Proofs.YtppmpfddcohkjaaDoorA
open Go
set_option linter.unusedVariables false

noncomputable def bodyOf (f : Func) : Code := match f.body with | some c => c | none => .skip

noncomputable def sg3 : Sig := ⟨[.one .bool], []⟩
noncomputable def fi3 : FnI := ⟨78, bodyOf Go.Proofs.Tryd.f3, [.tmp 8],
  [],
  [],
  [], [], false⟩
noncomputable def sg4 : Sig := ⟨[.one .bool], []⟩
noncomputable def fi4 : FnI := ⟨64, bodyOf Go.Proofs.Tryd.f4, [.tmp 6],
  [],
  [(0, [.keep [1, 3, 5, 7, 9], .own 7 .str false, .keepR [3, 5, 2007]])],
  [], [], false⟩
noncomputable def sg5 : Sig := ⟨[.one .bool], []⟩
noncomputable def fi5 : FnI := ⟨73, bodyOf Go.Proofs.Tryd.f5, [.tmp 8],
  [],
  [],
  [], [], false⟩
noncomputable def sg6 : Sig := ⟨[.one .bool], []⟩
noncomputable def fi6 : FnI := ⟨140, bodyOf Go.Proofs.Tryd.f6, [.tmp 6],
  [(25, [.froze 7 0, .froze 8 6]), (26, [.froze 9 6])],
  [(0, [.keep [0, 1, 2, 7, 8, 9, 10, 11], .own 10 .str false, .cell 7 0 .node false, .cell 8 6 .arr false, .cell 9 6 .arr false, .keepR [7, 8, 9, 2010]]), (2, [.keep [0, 1, 2, 7, 8, 9, 10, 11, 12, 13, 14, 15], .own 10 .str false, .cell 7 0 .node false, .cell 8 6 .arr false, .cell 9 6 .arr false, .keepR [7, 8, 9, 2010]])],
  [(15, [.keep [0, 1, 2, 7, 8, 9, 10, 11, 12, 13, 14], .own 10 .str false, .cell 7 0 .node false, .cell 8 6 .arr false, .cell 9 6 .arr false, .keepR [7, 8, 9, 2010]])], [], false⟩
noncomputable def sg7 : Sig := ⟨[.el .arr], []⟩
noncomputable def fi7 : FnI := ⟨24, bodyOf Go.Proofs.Tryd.f7, [.cell 2 27],
  [],
  [(0, [.keep [1, 2, 3, 4], .own 3 .arr false, .cell 2 6 .arr false, .keepR [1, 2, 2003]])],
  [], [], false⟩
noncomputable def sg8 : Sig := ⟨[.one .str, .one (.int .i64)], []⟩
noncomputable def fi8 : FnI := ⟨30, bodyOf Go.Proofs.Tryd.f8, [.tmp 8, .tmp 9],
  [],
  [],
  [], [], false⟩
noncomputable def sg9 : Sig := ⟨[.one .str, .one (.int .i64)], []⟩
noncomputable def fi9 : FnI := ⟨30, bodyOf Go.Proofs.Tryd.f9, [.tmp 8, .tmp 9],
  [],
  [],
  [], [], false⟩
noncomputable def sg10 : Sig := ⟨[.one (.own .str false), .one (.int .i64)], []⟩
noncomputable def fi10 : FnI := ⟨30, bodyOf Go.Proofs.Tryd.f10, [.tmp 6, .tmp 7],
  [],
  [(0, [.keep [1, 3, 5, 8, 16, 17], .own 8 .str false, .keepR [3, 5, 2008]])],
  [], [], false⟩
noncomputable def sg11 : Sig := ⟨[.one (.own .str false), .one (.int .i64)], []⟩
noncomputable def fi11 : FnI := ⟨30, bodyOf Go.Proofs.Tryd.f11, [.tmp 6, .tmp 7],
  [],
  [(0, [.keep [1, 3, 5, 8, 9], .own 8 .str false, .keepR [3, 5, 2008]])],
  [], [], false⟩
noncomputable def sg12 : Sig := ⟨[.one (.int .i64)], []⟩
noncomputable def fi12 : FnI := ⟨4, bodyOf Go.Proofs.Tryd.f12, [.tmp 2],
  [],
  [],
  [], [], false⟩
noncomputable def sg13 : Sig := ⟨[.one .bool], []⟩
noncomputable def fi13 : FnI := ⟨26, bodyOf Go.Proofs.Tryd.f13, [.tmp 4],
  [],
  [(0, [.keep [0, 1, 5], .keepR []])],
  [], [], false⟩
noncomputable def sg14 : Sig := ⟨[.one .bool], []⟩
noncomputable def fi14 : FnI := ⟨74, bodyOf Go.Proofs.Tryd.f14, [.tmp 4],
  [],
  [(0, [.keep [2, 3, 5], .keepR [2, 3]])],
  [], [], false⟩
noncomputable def sg15 : Sig := ⟨[.one .bool], []⟩
noncomputable def fi15 : FnI := ⟨69, bodyOf Go.Proofs.Tryd.f15, [.tmp 0],
  [(3, [.froze 13 0, .froze 16 0])],
  [],
  [], [], false⟩
noncomputable def sg16 : Sig := ⟨[.one .bool], []⟩
noncomputable def fi16 : FnI := ⟨105, bodyOf Go.Proofs.Tryd.f16, [.tmp 6],
  [],
  [(0, [.keep [3, 8, 9, 11, 13], .own 9 .str false, .own 11 (.int .i64) false, .keepR [3, 2009, 2011]])],
  [], [], false⟩
noncomputable def sg17 : Sig := ⟨[.one .str], []⟩
noncomputable def fi17 : FnI := ⟨7, bodyOf Go.Proofs.Tryd.f17, [.tmp 2],
  [],
  [],
  [], [], false⟩
noncomputable def sg18 : Sig := ⟨[.one .bool], []⟩
noncomputable def fi18 : FnI := ⟨33, bodyOf Go.Proofs.Tryd.f18, [.tmp 6],
  [],
  [],
  [], [], false⟩
noncomputable def sg19 : Sig := ⟨[.one .str], []⟩
noncomputable def fi19 : FnI := ⟨19, bodyOf Go.Proofs.Tryd.f19, [.tmp 8],
  [],
  [],
  [], [], false⟩
noncomputable def sg20 : Sig := ⟨[.one .bool], []⟩
noncomputable def fi20 : FnI := ⟨220, bodyOf Go.Proofs.Tryd.f20, [.tmp 6],
  [],
  [(0, [.keep [5, 7, 8, 9], .keepR [5]]), (2, [.keep [5, 7, 8, 12, 13], .keepR [5]])],
  [], [], false⟩
noncomputable def sg21 : Sig := ⟨[.one .str], []⟩
noncomputable def fi21 : FnI := ⟨167, bodyOf Go.Proofs.Tryd.f21, [.tmp 8],
  [],
  [(0, [.keep [1, 3, 4, 6, 9], .keepR [4, 6]]), (3, [.keep [4, 6, 10, 12, 16, 17], .own 10 (.int .i64) false, .own 12 .str false, .keepR [4, 6, 2010, 2012]]), (5, [.keep [3, 4, 6, 10, 12, 18], .own 10 (.int .i64) false, .own 12 .str false, .keepR [4, 6, 2010, 2012]])],
  [], [], false⟩
noncomputable def sg22 : Sig := ⟨[.one .bool], []⟩
noncomputable def fi22 : FnI := ⟨18, bodyOf Go.Proofs.Tryd.f22, [.tmp 4],
  [],
  [],
  [], [], false⟩
noncomputable def sg23 : Sig := ⟨[.one (.int .i64), .one (.own .str false), .one (.int .i64)], []⟩
noncomputable def fi23 : FnI := ⟨64, bodyOf Go.Proofs.Tryd.f23, [.tmp 2, .tmp 3, .tmp 4],
  [],
  [(1, [.keep [0, 5, 6], .own 5 .str false, .keepR [2005]])],
  [(13, [.keep [0], .keepR []])], [], false⟩
noncomputable def sg24 : Sig := ⟨[.one (.own (.int .i64) false), .one (.int .i64)], []⟩
noncomputable def fi24 : FnI := ⟨13, bodyOf Go.Proofs.Tryd.f24, [.tmp 4, .tmp 5],
  [],
  [],
  [], [], false⟩
noncomputable def sg25 : Sig := ⟨[.one .bool], []⟩
noncomputable def fi25 : FnI := ⟨9, bodyOf Go.Proofs.Tryd.f25, [.tmp 2],
  [],
  [],
  [], [], false⟩
noncomputable def sg26 : Sig := ⟨[.one .str], []⟩
noncomputable def fi26 : FnI := ⟨22, bodyOf Go.Proofs.Tryd.f26, [.tmp 2],
  [],
  [(0, [.keep [0, 3], .keepR []])],
  [], [], false⟩
noncomputable def sg27 : Sig := ⟨[.one .bool], []⟩
noncomputable def fi27 : FnI := ⟨18, bodyOf Go.Proofs.Tryd.f27, [.tmp 4],
  [],
  [],
  [], [], false⟩
noncomputable def sg28 : Sig := ⟨[.one .bool], []⟩
noncomputable def fi28 : FnI := ⟨82, bodyOf Go.Proofs.Tryd.f28, [.tmp 4],
  [],
  [],
  [], [], false⟩
noncomputable def sg29 : Sig := ⟨[.one .bool], []⟩
noncomputable def fi29 : FnI := ⟨162, bodyOf Go.Proofs.Tryd.f29, [.tmp 6],
  [],
  [(0, [.keep [0, 1, 2, 7, 38, 39, 40], .own 38 (.int .i64) false, .keepR [7, 2038]])],
  [], [], false⟩
noncomputable def sg30 : Sig := ⟨[.one .bool], []⟩
noncomputable def fi30 : FnI := ⟨87, bodyOf Go.Proofs.Tryd.f30, [.tmp 6],
  [],
  [(0, [.keep [2, 7, 9], .keepR []])],
  [], [], false⟩
noncomputable def sg31 : Sig := ⟨[.one .bool], []⟩
noncomputable def fi31 : FnI := ⟨78, bodyOf Go.Proofs.Tryd.f31, [.tmp 6],
  [],
  [(0, [.keep [2, 9, 45, 46], .keepR []])],
  [], [], false⟩
noncomputable def sg32 : Sig := ⟨[.one .str], []⟩
noncomputable def fi32 : FnI := ⟨58, bodyOf Go.Proofs.Tryd.f32, [.tmp 8],
  [],
  [],
  [], [], false⟩
noncomputable def sg33 : Sig := ⟨[.one (.int .i64)], []⟩
noncomputable def fi33 : FnI := ⟨6, bodyOf Go.Proofs.Tryd.f33, [.tmp 2],
  [],
  [],
  [], [], false⟩
noncomputable def sg34 : Sig := ⟨[.one .bool], []⟩
noncomputable def fi34 : FnI := ⟨144, bodyOf Go.Proofs.Tryd.f34, [.tmp 8],
  [],
  [(1, [.keep [3, 4, 6, 9, 11], .own 9 (.int .i64) false, .keepR [4, 6, 2009]])],
  [], [], false⟩
noncomputable def sg35 : Sig := ⟨[.one (.int .i64), .one (.int .i64)], []⟩
noncomputable def fi35 : FnI := ⟨42, bodyOf Go.Proofs.Tryd.f35, [.tmp 6, .tmp 7],
  [],
  [],
  [], [], false⟩
noncomputable def sg36 : Sig := ⟨[.one .bool], []⟩
noncomputable def fi36 : FnI := ⟨14, bodyOf Go.Proofs.Tryd.f36, [.tmp 4],
  [],
  [],
  [], [], false⟩
noncomputable def sg37 : Sig := ⟨[.one (.int .i64)], []⟩
noncomputable def fi37 : FnI := ⟨21, bodyOf Go.Proofs.Tryd.f37, [.tmp 2],
  [],
  [(0, [.keep [0, 3, 4], .keepR []])],
  [], [], false⟩
noncomputable def sg38 : Sig := ⟨[.one .str], []⟩
noncomputable def fi38 : FnI := ⟨4, bodyOf Go.Proofs.Tryd.f38, [.tmp 2],
  [],
  [],
  [], [], false⟩
noncomputable def sg39 : Sig := ⟨[.one .bool], []⟩
noncomputable def fi39 : FnI := ⟨14, bodyOf Go.Proofs.Tryd.f39, [.tmp 4],
  [],
  [],
  [], [], false⟩
noncomputable def sg40 : Sig := ⟨[.one (.int .i64), .one (.int .i64)], []⟩
noncomputable def fi40 : FnI := ⟨25, bodyOf Go.Proofs.Tryd.f40, [.tmp 4, .tmp 5],
  [],
  [],
  [], [], false⟩
noncomputable def sg41 : Sig := ⟨[.one .str], []⟩
noncomputable def fi41 : FnI := ⟨10, bodyOf Go.Proofs.Tryd.f41, [.tmp 2],
  [],
  [],
  [], [], false⟩
noncomputable def sg42 : Sig := ⟨[.one .str], []⟩
noncomputable def fi42 : FnI := ⟨7, bodyOf Go.Proofs.Tryd.f42, [.tmp 2],
  [],
  [],
  [], [], false⟩
noncomputable def sg43 : Sig := ⟨[.one .str], []⟩
noncomputable def fi43 : FnI := ⟨7, bodyOf Go.Proofs.Tryd.f43, [.tmp 2],
  [],
  [],
  [], [], false⟩
noncomputable def sg44 : Sig := ⟨[.one .bool], []⟩
noncomputable def fi44 : FnI := ⟨99, bodyOf Go.Proofs.Tryd.f44, [.tmp 2],
  [],
  [(0, [.keep [1, 3, 4], .own 3 (.int .i64) false, .keepR [1, 2003]])],
  [], [], false⟩
noncomputable def sg45 : Sig := ⟨[.one (.int .i64)], []⟩
noncomputable def fi45 : FnI := ⟨126, bodyOf Go.Proofs.Tryd.f45, [.tmp 6],
  [],
  [(1, [.keep [0, 1, 2, 13], .keepR []])],
  [], [], false⟩
noncomputable def sg46 : Sig := ⟨[.one (.int .i64)], []⟩
noncomputable def fi46 : FnI := ⟨27, bodyOf Go.Proofs.Tryd.f46, [.tmp 6],
  [],
  [(0, [.keep [0, 1, 2, 7], .keepR []])],
  [], [], false⟩
noncomputable def sg47 : Sig := ⟨[.one (.own (.int .i64) false)], []⟩
noncomputable def fi47 : FnI := ⟨27, bodyOf Go.Proofs.Tryd.f47, [.tmp 4],
  [],
  [(0, [.keep [1, 2, 5, 6], .own 5 (.int .i64) false, .keepR [2, 2005]])],
  [], [], false⟩
noncomputable def sg48 : Sig := ⟨[.one .str], []⟩
noncomputable def fi48 : FnI := ⟨37, bodyOf Go.Proofs.Tryd.f48, [.tmp 2],
  [],
  [(0, [.keep [0, 3, 4], .own 4 (.int .u8) false, .keepR [2004]])],
  [(4, [.keep [0, 3], .keepR []])], [], false⟩
noncomputable def sg49 : Sig := ⟨[.one .bool], []⟩
noncomputable def fi49 : FnI := ⟨74, bodyOf Go.Proofs.Tryd.f49, [.tmp 2],
  [],
  [(0, [.keep [1, 19, 20, 21], .keepR [1]]), (2, [.keep [1, 41, 42, 43], .keepR [1]])],
  [], [], false⟩
noncomputable def sg50 : Sig := ⟨[.one (.int .i64)], []⟩
noncomputable def fi50 : FnI := ⟨6, bodyOf Go.Proofs.Tryd.f50, [.tmp 2],
  [],
  [],
  [], [], false⟩
noncomputable def sg51 : Sig := ⟨[.one (.own (.int .i64) false), .one (.int .i64)], []⟩
noncomputable def fi51 : FnI := ⟨12, bodyOf Go.Proofs.Tryd.f51, [.tmp 4, .tmp 5],
  [],
  [],
  [], [], false⟩
noncomputable def sg52 : Sig := ⟨[.one .bool], []⟩
noncomputable def fi52 : FnI := ⟨56, bodyOf Go.Proofs.Tryd.f52, [.tmp 10],
  [],
  [(0, [.keep [0, 2, 3, 4, 11, 16, 17], .keepR []])],
  [], [], false⟩
noncomputable def sg53 : Sig := ⟨[.one .bool], []⟩
noncomputable def fi53 : FnI := ⟨8, bodyOf Go.Proofs.Tryd.f53, [.tmp 3],
  [],
  [],
  [], [], false⟩
noncomputable def sg54 : Sig := ⟨[.one .bool], []⟩
noncomputable def fi54 : FnI := ⟨9, bodyOf Go.Proofs.Tryd.f54, [.tmp 4],
  [],
  [],
  [], [], false⟩
noncomputable def sg55 : Sig := ⟨[.ptr .arr, .one .bool], []⟩
noncomputable def fi55 : FnI := ⟨54, bodyOf Go.Proofs.Tryd.f55, [.tmp 6, .tmp 7],
  [],
  [],
  [], [], false⟩
noncomputable def sg56 : Sig := ⟨[.one (.int .i64), .one .bool], []⟩
noncomputable def fi56 : FnI := ⟨18, bodyOf Go.Proofs.Tryd.f56, [.tmp 4, .tmp 5],
  [],
  [],
  [], [], false⟩
noncomputable def sg57 : Sig := ⟨[.one .bool], []⟩
noncomputable def fi57 : FnI := ⟨18, bodyOf Go.Proofs.Tryd.f57, [.tmp 4],
  [],
  [],
  [], [], false⟩
noncomputable def sg58 : Sig := ⟨[.one .str], []⟩
noncomputable def fi58 : FnI := ⟨1, bodyOf Go.Proofs.Tryd.f58, [.tmp 0],
  [],
  [],
  [], [], false⟩
noncomputable def sg59 : Sig := ⟨[.one (.int .i64)], []⟩
noncomputable def fi59 : FnI := ⟨23, bodyOf Go.Proofs.Tryd.f59, [.tmp 4],
  [],
  [(0, [.keep [0, 1, 5], .keepR []])],
  [], [], false⟩
noncomputable def sg60 : Sig := ⟨[.one .str], []⟩
noncomputable def fi60 : FnI := ⟨139, bodyOf Go.Proofs.Tryd.f60, [.tmp 8],
  [],
  [(2, [.keep [2, 4, 9, 13, 15, 16], .own 9 (.int .i64) false, .own 15 .str false, .keepR [4, 2009, 2015]]), (4, [.keep [2, 3, 4, 15, 116, 117, 118], .own 15 .str false, .own 116 (.int .i64) false, .keepR [4, 2015, 2116]])],
  [], [], false⟩
noncomputable def sg61 : Sig := ⟨[.one .bool], []⟩
noncomputable def fi61 : FnI := ⟨12, bodyOf Go.Proofs.Tryd.f61, [.tmp 2],
  [],
  [],
  [], [], false⟩
noncomputable def sg62 : Sig := ⟨[.one .bool], []⟩
noncomputable def fi62 : FnI := ⟨52, bodyOf Go.Proofs.Tryd.f62, [.tmp 10],
  [],
  [(0, [.keep [0, 1, 2, 3, 4, 11, 12], .keepR []])],
  [], [], false⟩
noncomputable def sg63 : Sig := ⟨[.one .bool], []⟩
noncomputable def fi63 : FnI := ⟨5, bodyOf Go.Proofs.Tryd.f63, [.tmp 2],
  [],
  [],
  [], [], false⟩
noncomputable def sg64 : Sig := ⟨[.one .str], []⟩
noncomputable def fi64 : FnI := ⟨18, bodyOf Go.Proofs.Tryd.f64, [.tmp 2],
  [],
  [(0, [.keep [0, 3, 4], .keepR []])],
  [], [], false⟩
noncomputable def sg65 : Sig := ⟨[.one .bool], []⟩
noncomputable def fi65 : FnI := ⟨15, bodyOf Go.Proofs.Tryd.f65, [.tmp 6],
  [],
  [],
  [], [], false⟩
noncomputable def sg66 : Sig := ⟨[.one (.int .i64), .one .bool], []⟩
noncomputable def fi66 : FnI := ⟨59, bodyOf Go.Proofs.Tryd.f66, [.tmp 2, .tmp 3],
  [],
  [(0, [.keep [0, 4, 5], .keepR []])],
  [], [], false⟩
noncomputable def sg67 : Sig := ⟨[.one .bool], []⟩
noncomputable def fi67 : FnI := ⟨36, bodyOf Go.Proofs.Tryd.f67, [.tmp 4],
  [],
  [],
  [], [], false⟩
noncomputable def sg68 : Sig := ⟨[.one (.own (.int .i64) false)], []⟩
noncomputable def fi68 : FnI := ⟨32, bodyOf Go.Proofs.Tryd.f68, [.tmp 4],
  [],
  [(0, [.keep [1, 5, 11, 12, 13], .own 5 (.int .i64) false, .keepR [2005]])],
  [], [], false⟩
noncomputable def sg69 : Sig := ⟨[.one (.own (.int .i64) false)], []⟩
noncomputable def fi69 : FnI := ⟨21, bodyOf Go.Proofs.Tryd.f69, [.tmp 4],
  [],
  [(0, [.keep [0, 1, 5], .own 5 (.int .i64) false, .keepR [2005]])],
  [], [], false⟩
noncomputable def sg70 : Sig := ⟨[.one (.int .i64)], []⟩
noncomputable def fi70 : FnI := ⟨19, bodyOf Go.Proofs.Tryd.f70, [.tmp 4],
  [],
  [(0, [.keep [0, 1, 7, 8], .keepR []])],
  [], [], false⟩
noncomputable def sg71 : Sig := ⟨[.one .bool], []⟩
noncomputable def fi71 : FnI := ⟨9, bodyOf Go.Proofs.Tryd.f71, [.tmp 2],
  [],
  [],
  [], [], false⟩
noncomputable def sg72 : Sig := ⟨[.one (.int .i64), .one (.int .i64)], []⟩
noncomputable def fi72 : FnI := ⟨48, bodyOf Go.Proofs.Tryd.f72, [.tmp 6, .tmp 7],
  [],
  [],
  [], [], false⟩
noncomputable def sg73 : Sig := ⟨[.one .bool], []⟩
noncomputable def fi73 : FnI := ⟨14, bodyOf Go.Proofs.Tryd.f73, [.tmp 4],
  [],
  [],
  [], [], false⟩
noncomputable def sg74 : Sig := ⟨[.one .str], []⟩
noncomputable def fi74 : FnI := ⟨7, bodyOf Go.Proofs.Tryd.f74, [.tmp 2],
  [],
  [],
  [], [], false⟩
noncomputable def sg75 : Sig := ⟨[.one (.int .i64)], []⟩
noncomputable def fi75 : FnI := ⟨22, bodyOf Go.Proofs.Tryd.f75, [.tmp 2],
  [],
  [(0, [.keep [0, 3, 6, 7], .keepR []])],
  [], [], false⟩
noncomputable def sg76 : Sig := ⟨[.one .str], []⟩
noncomputable def fi76 : FnI := ⟨4, bodyOf Go.Proofs.Tryd.f76, [.tmp 2],
  [],
  [],
  [], [], false⟩
noncomputable def sg77 : Sig := ⟨[.one .str], []⟩
noncomputable def fi77 : FnI := ⟨10, bodyOf Go.Proofs.Tryd.f77, [.tmp 2],
  [],
  [],
  [], [], false⟩
noncomputable def sg78 : Sig := ⟨[.one .str], []⟩
noncomputable def fi78 : FnI := ⟨7, bodyOf Go.Proofs.Tryd.f78, [.tmp 2],
  [],
  [],
  [], [], false⟩
noncomputable def sg79 : Sig := ⟨[.one .str], []⟩
noncomputable def fi79 : FnI := ⟨7, bodyOf Go.Proofs.Tryd.f79, [.tmp 2],
  [],
  [],
  [], [], false⟩
noncomputable def sg80 : Sig := ⟨[.one .bool], []⟩
noncomputable def fi80 : FnI := ⟨9, bodyOf Go.Proofs.Tryd.f80, [.tmp 2],
  [],
  [],
  [], [], false⟩
noncomputable def sg81 : Sig := ⟨[.one .str], []⟩
noncomputable def sg82 : Sig := ⟨[.one .str], []⟩
noncomputable def tyL : List (Nat × TyI) := [
  (3, ⟨false, 1, 8, [(.int .i64 0)], some .i64, false, none, 0, [], 0, [], false, false⟩),
  (4, ⟨false, 1, 1, [(.bool false)], none, false, none, 0, [], 0, [], false, true⟩),
  (5, ⟨false, 1, 1, [(.int .u8 0)], some .u8, false, none, 0, [], 0, [], false, false⟩),
  (9, ⟨false, 1, 16, [(.str [])], none, true, none, 0, [], 0, [], false, false⟩),
  (22, ⟨false, 1, 24, [.nils], none, false, some .node, 48, [(.int .i64 0), (.int .i64 0), (.bool false)], 24, [], false, false⟩),
  (24, ⟨true, 1, 24, [.nils], none, false, none, 0, [], 0, [(0, 1, 22)], false, false⟩),
  (25, ⟨false, 1, 24, [.nils], none, false, some .arr, 27, [(.int .i64 0), (.int .i64 0), (.int .i64 0), (.str []), (.str []), (.str []), .nils], 96, [], false, false⟩),
  (27, ⟨true, 7, 96, [(.int .i64 0), (.int .i64 0), (.int .i64 0), (.str []), (.str []), (.str []), .nils], none, false, none, 0, [], 0, [(0, 1, 3), (1, 1, 3), (2, 1, 3), (3, 1, 9), (4, 1, 9), (5, 1, 9), (6, 1, 25)], false, false⟩),
  (34, ⟨false, 1, 24, [.nils], none, false, some .str, 9, [(.str [])], 16, [], false, false⟩),
  (46, ⟨false, 1, 24, [.nils], none, false, some (.int .i64), 3, [(.int .i64 0)], 8, [], false, false⟩),
  (48, ⟨true, 3, 24, [(.int .i64 0), (.int .i64 0), (.bool false)], none, false, none, 0, [], 0, [(0, 1, 3), (1, 1, 3), (2, 1, 4)], true, false⟩),
  (50, ⟨false, 1, 24, [.nils], none, false, some (.int .u8), 5, [(.int .u8 0)], 1, [], false, false⟩),
  (54, ⟨true, 1, 24, [.nils], none, false, none, 0, [], 0, [(0, 1, 24)], false, false⟩),
  (94, ⟨false, 1, 8, [(.int .u64 0)], some .u64, false, none, 0, [], 0, [], false, false⟩)]
noncomputable def pkL : List (Nat × List PK) := [
  (3, [.agg [(.list .node)], .one (.int .i64), .agg [(.int .i64), (.int .i64), (.int .i64), .str, .str, .str, (.list .arr)], .one (.int .i64)]),
  (4, [.agg [(.list .node)], .one (.int .i64), .agg [(.int .i64), (.int .i64), (.int .i64), .str, .str, .str, (.list .arr)]]),
  (5, [.agg [(.list .node)], .one (.int .i64), .agg [(.int .i64), (.int .i64), (.int .i64), .str, .str, .str, (.list .arr)], .one (.int .i64)]),
  (6, [.one (.list (.int .i64)), .one (.int .i64), .one (.int .i64)]),
  (7, [.agg [(.int .i64), (.int .i64), (.int .i64), .str, .str, .str, (.list .arr)]]),
  (8, [.agg [(.list .node)], .one (.int .i64), .agg [(.int .i64), (.int .i64), (.int .i64), .str, .str, .str, (.list .arr)], .one (.int .i64)]),
  (9, [.agg [(.list .node)], .one (.int .i64), .agg [(.int .i64), (.int .i64), (.int .i64), .str, .str, .str, (.list .arr)], .one (.int .i64)]),
  (10, [.agg [(.list .node)], .one (.int .i64), .agg [(.int .i64), (.int .i64), (.int .i64), .str, .str, .str, (.list .arr)]]),
  (11, [.agg [(.list .node)], .one (.int .i64), .agg [(.int .i64), (.int .i64), (.int .i64), .str, .str, .str, (.list .arr)]]),
  (12, [.one (.int .i64)]),
  (13, [.one (.list .str), .one (.list .str)]),
  (14, [.agg [(.int .i64), (.int .i64), (.int .i64), .str, .str, .str, (.list .arr)], .agg [(.int .i64), (.int .i64), (.int .i64), .str, .str, .str, (.list .arr)]]),
  (15, []),
  (16, [.agg [(.list .node)], .one (.int .i64), .one .str]),
  (17, [.one (.int .i64)]),
  (18, [.agg [(.list .node)], .one (.int .i64), .agg [(.int .i64), (.int .i64), (.int .i64), .str, .str, .str, (.list .arr)]]),
  (19, [.agg [(.list .node)], .one (.int .i64), .ro [(.int .i64), (.int .i64), (.int .i64), .str, .str, .str, (.list .arr)], .one (.int .i64)]),
  (20, [.agg [(.list .node)], .one (.int .i64), .agg [(.int .i64), (.int .i64), (.int .i64), .str, .str, .str, (.list .arr)]]),
  (21, [.agg [(.list .node)], .one (.int .i64), .agg [(.int .i64), (.int .i64), (.int .i64), .str, .str, .str, (.list .arr)], .one (.int .i64)]),
  (22, [.agg [(.list .node)], .one (.int .i64)]),
  (23, [.one .str]),
  (24, [.agg [(.list .node)], .one (.int .i64)]),
  (25, [.one (.int .i64)]),
  (26, [.one (.int .i64)]),
  (27, [.agg [(.list .node)], .one (.int .i64)]),
  (28, [.ro [(.int .i64), (.int .i64), .bool], .ro [(.int .i64), (.int .i64), (.int .i64), .str, .str, .str, (.list .arr)]]),
  (29, [.ro [(.list .node)], .one (.int .i64), .ro [(.int .i64), (.int .i64), (.int .i64), .str, .str, .str, (.list .arr)]]),
  (30, [.ro [(.list .node)], .one (.int .i64), .ro [(.int .i64), (.int .i64), (.int .i64), .str, .str, .str, (.list .arr)]]),
  (31, [.ro [(.list .node)], .one (.int .i64), .ro [(.int .i64), (.int .i64), (.int .i64), .str, .str, .str, (.list .arr)]]),
  (32, [.agg [(.list .node)], .one (.int .i64), .ro [(.int .i64), (.int .i64), (.int .i64), .str, .str, .str, (.list .arr)], .one (.int .i64)]),
  (33, [.one (.int .i64)]),
  (34, [.agg [(.list .node)], .one (.int .i64), .agg [(.int .i64), (.int .i64), (.int .i64), .str, .str, .str, (.list .arr)], .one (.int .i64)]),
  (35, [.one .str, .one (.int .i64), .one (.int .i64)]),
  (36, [.agg [(.int .i64), (.int .i64), (.int .i64), .str, .str, .str, (.list .arr)], .one (.int .i64)]),
  (37, [.one .str]),
  (38, [.one .bool]),
  (39, [.one .str, .one (.int .i64)]),
  (40, [.agg [(.int .i64), (.int .i64), (.int .i64), .str, .str, .str, (.list .arr)], .one (.int .i64)]),
  (41, [.one .str]),
  (42, [.one (.list .str)]),
  (43, [.one (.list .str)]),
  (44, [.agg [(.list .node)]]),
  (45, [.one .str, .one (.int .i64), .one (.int .i64)]),
  (46, [.one .str, .one (.int .i64), .one (.int .u8)]),
  (47, [.agg [(.list .node)], .one (.int .i64)]),
  (48, [.one (.int .i64)]),
  (49, [.agg [(.list .node)]]),
  (50, [.one (.int .i64)]),
  (51, [.agg [(.list .node)], .one (.int .i64)]),
  (52, [.one .str, .one (.int .i64), .one (.int .i64), .one (.int .i64), .one (.int .i64)]),
  (53, [.agg [(.int .i64), (.int .i64), (.int .i64), .str, .str, .str, (.list .arr)], .ro [(.int .i64)]]),
  (54, [.one (.list .arr), .fn]),
  (55, [.ro [(.list .node)], .one (.int .i64), .ro [(.int .i64), (.int .i64), (.int .i64), .str, .str, .str, (.list .arr)]]),
  (56, [.one .str, .one (.int .i64)]),
  (57, [.ro [(.int .i64), (.int .i64), (.int .i64), .str, .str, .str, (.list .arr)], .one (.int .i64)]),
  (58, []),
  (59, [.ro [(.int .i64), (.int .i64), (.int .i64), .str, .str, .str, (.list .arr)], .one (.int .i64)]),
  (60, [.agg [(.list .node)], .one (.int .i64), .ro [(.int .i64), (.int .i64), (.int .i64), .str, .str, .str, (.list .arr)], .one (.int .i64)]),
  (61, [.agg [(.int .i64), (.int .i64), (.int .i64), .str, .str, .str, (.list .arr)]]),
  (62, [.one .str, .one (.int .i64), .one (.int .i64), .one (.int .i64), .one (.int .i64)]),
  (63, [.one (.int .i64)]),
  (64, [.one (.list .str)]),
  (65, [.one (.int .i64), .one (.int .i64), .one (.int .i64)]),
  (66, [.one .str]),
  (67, [.ro [(.list .node)], .one (.int .i64)]),
  (68, [.ro [(.list .node)], .one (.int .i64)]),
  (69, [.ro [(.list .node)], .one (.int .i64)]),
  (70, [.one (.list .arr), .fn]),
  (71, [.one (.int .i64)]),
  (72, [.one .str, .one (.int .i64), .one (.int .i64)]),
  (73, [.one .str, .one (.int .i64)]),
  (74, [.one (.int .i64)]),
  (75, [.one .str]),
  (76, [.one .bool]),
  (77, [.one .str]),
  (78, [.one (.list .str)]),
  (79, [.one (.list .str)]),
  (80, [.one (.int .i64)]),
  (81, [.one (.int .i64)]),
  (82, [.one (.list .str), .one .str])]
noncomputable def sgL : List (Nat × Sig) := [(3, sg3), (4, sg4), (5, sg5), (6, sg6), (7, sg7), (8, sg8), (9, sg9), (10, sg10), (11, sg11), (12, sg12), (13, sg13), (14, sg14), (15, sg15), (16, sg16), (17, sg17), (18, sg18), (19, sg19), (20, sg20), (21, sg21), (22, sg22), (23, sg23), (24, sg24), (25, sg25), (26, sg26), (27, sg27), (28, sg28), (29, sg29), (30, sg30), (31, sg31), (32, sg32), (33, sg33), (34, sg34), (35, sg35), (36, sg36), (37, sg37), (38, sg38), (39, sg39), (40, sg40), (41, sg41), (42, sg42), (43, sg43), (44, sg44), (45, sg45), (46, sg46), (47, sg47), (48, sg48), (49, sg49), (50, sg50), (51, sg51), (52, sg52), (53, sg53), (54, sg54), (55, sg55), (56, sg56), (57, sg57), (58, sg58), (59, sg59), (60, sg60), (61, sg61), (62, sg62), (63, sg63), (64, sg64), (65, sg65), (66, sg66), (67, sg67), (68, sg68), (69, sg69), (70, sg70), (71, sg71), (72, sg72), (73, sg73), (74, sg74), (75, sg75), (76, sg76), (77, sg77), (78, sg78), (79, sg79), (80, sg80), (81, sg81), (82, sg82)]
noncomputable def fnL : List (Nat × FnI) := [(3, fi3), (4, fi4), (5, fi5), (6, fi6), (7, fi7), (8, fi8), (9, fi9), (10, fi10), (11, fi11), (12, fi12), (13, fi13), (14, fi14), (15, fi15), (16, fi16), (17, fi17), (18, fi18), (19, fi19), (20, fi20), (21, fi21), (22, fi22), (23, fi23), (24, fi24), (25, fi25), (26, fi26), (27, fi27), (28, fi28), (29, fi29), (30, fi30), (31, fi31), (32, fi32), (33, fi33), (34, fi34), (35, fi35), (36, fi36), (37, fi37), (38, fi38), (39, fi39), (40, fi40), (41, fi41), (42, fi42), (43, fi43), (44, fi44), (45, fi45), (46, fi46), (47, fi47), (48, fi48), (49, fi49), (50, fi50), (51, fi51), (52, fi52), (53, fi53), (54, fi54), (55, fi55), (56, fi56), (57, fi57), (58, fi58), (59, fi59), (60, fi60), (61, fi61), (62, fi62), (63, fi63), (64, fi64), (65, fi65), (66, fi66), (67, fi67), (68, fi68), (69, fi69), (70, fi70), (71, fi71), (72, fi72), (73, fi73), (74, fi74), (75, fi75), (76, fi76), (77, fi77), (78, fi78), (79, fi79), (80, fi80)]
noncomputable def pksOf (f : FuncId) : List PK := match look f pkL with | some l => l | none => []
noncomputable def sigOf (f : FuncId) : Sig := match look f sgL with | some s => s | none => ⟨[], []⟩
noncomputable def extOf (f : FuncId) (args : List Arg) : Option (sigOf f).den :=
  if h : f = 81 then h.symm ▸ (show Option (sigOf 81).den from extItoaA args) else
  if h : f = 82 then h.symm ▸ (show Option (sigOf 82).den from extJoinA args) else
  none
noncomputable def E (bar : Bar) : Env := ⟨fun f => look f fnL, fun t => look t tyL, pksOf, sigOf, extOf, bar⟩

end Go.Proofs.YtppmpfddcohkjaaDoorA
