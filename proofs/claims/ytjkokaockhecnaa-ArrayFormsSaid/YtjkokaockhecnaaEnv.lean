/- The functions, types, parameters and results of the program, as the machine is told of them: definitions alone. -/
import Derived.Test.YtjkokaockhecnaaProg
import Derived.Test.YtjkokaockhecnaaExt
namespace Go.Proofs.YtjkokaockhecnaaA
open Go
set_option linter.unusedVariables false

noncomputable def bodyOf (f : Func) : Code := match f.body with | some c => c | none => .skip

noncomputable def sg3 : Sig := ⟨[.one .bool], []⟩
noncomputable def fi3 : FnI := ⟨186, bodyOf Go.Proofs.Try.f3, [.tmp 4],
  [(5, [.froze 20 0])],
  [],
  [(53, [.keep [6, 7, 9, 11, 13], .cell 13 6 .arr false, .cell 6 0 .node true, .keepR [6, 7, 9, 11, 13]])], [24], false⟩
noncomputable def sg6 : Sig := ⟨[.one .bool], []⟩
noncomputable def fi6 : FnI := ⟨34, bodyOf Go.Proofs.Try.f6, [.tmp 0],
  [],
  [],
  [], [], false⟩
noncomputable def sg7 : Sig := ⟨[.el .arr, .one (.int .i64)], []⟩
noncomputable def fi7 : FnI := ⟨42, bodyOf Go.Proofs.Try.f7, [.cell 6 30, .tmp 7],
  [],
  [(0, [.keep [1, 2, 3, 6, 8], .cell 6 6 .arr false, .keepR [3, 6]])],
  [], [], false⟩
noncomputable def sg8 : Sig := ⟨[.el .arr, .one (.int .i64)], []⟩
noncomputable def fi8 : FnI := ⟨96, bodyOf Go.Proofs.Try.f8, [.cell 6 30, .tmp 7],
  [(4, [.froze 22 0]), (18, [.froze 2013 0])],
  [(0, [.keep [1, 3, 6, 8, 12, 13, 14], .own 8 .str true, .own 13 .str false, .cell 12 6 .arr false, .cell 6 6 .arr false, .keepR [3, 6, 12, 2008, 2013]]), (2, [.keep [1, 3, 6, 8, 12, 13, 14, 15], .own 8 .str true, .own 13 .str false, .cell 12 6 .arr false, .cell 6 6 .arr false, .keepR [3, 6, 12, 2008, 2013]])],
  [], [], false⟩
noncomputable def sg9 : Sig := ⟨[.el .arr, .one (.int .i64)], []⟩
noncomputable def fi9 : FnI := ⟨76, bodyOf Go.Proofs.Try.f9, [.cell 6 30, .tmp 7],
  [(12, [.froze 2011 0])],
  [(0, [.keep [1, 3, 6, 8, 10, 11, 12], .own 8 .str false, .own 11 .str false, .cell 10 6 .arr false, .cell 6 6 .arr false, .keepR [3, 6, 10, 2008, 2011]])],
  [], [], false⟩
noncomputable def sg10 : Sig := ⟨[.agg [(.int .i64), (.int .i64), (.int .i64), .str, .str, .str, (.own .arr false)]], []⟩
noncomputable def fi10 : FnI := ⟨24, bodyOf Go.Proofs.Try.f10, [.cell 2 30],
  [],
  [(0, [.keep [1, 2, 3, 4], .own 3 .arr false, .cell 2 6 .arr false, .keepR [1, 2, 2003]])],
  [], [18], false⟩
noncomputable def sg11 : Sig := ⟨[.one (.int .i64)], []⟩
noncomputable def fi11 : FnI := ⟨4, bodyOf Go.Proofs.Try.f11, [.tmp 2],
  [],
  [],
  [], [], false⟩
noncomputable def sg12 : Sig := ⟨[.one .bool], []⟩
noncomputable def fi12 : FnI := ⟨33, bodyOf Go.Proofs.Try.f12, [.tmp 6],
  [],
  [],
  [], [], false⟩
noncomputable def sg18 : Sig := ⟨[.one .bool], []⟩
noncomputable def fi18 : FnI := ⟨18, bodyOf Go.Proofs.Try.f18, [.tmp 4],
  [],
  [],
  [], [], false⟩
noncomputable def sg19 : Sig := ⟨[.one .bool], []⟩
noncomputable def fi19 : FnI := ⟨105, bodyOf Go.Proofs.Try.f19, [.tmp 6],
  [],
  [(0, [.keep [3, 8, 9, 11, 13], .own 9 .str false, .own 11 (.int .i64) false, .keepR [3, 2009, 2011]])],
  [], [], false⟩
noncomputable def sg20 : Sig := ⟨[.el .arr, .one .bool], []⟩
noncomputable def fi20 : FnI := ⟨222, bodyOf Go.Proofs.Try.f20, [.cell 6 30, .tmp 7],
  [],
  [(0, [.keep [1, 2, 3, 6, 8, 9, 11, 12, 13], .own 9 (.int .i64) false, .own 12 .bool false, .cell 6 6 .arr false, .cell 8 6 .arr false, .keepR [3, 6, 8, 40, 2009, 2012]]), (3, [.keep [1, 2, 3, 6, 8, 9, 11, 12, 13, 14, 15, 18], .own 9 (.int .i64) false, .own 12 .bool false, .own 15 .str false, .cell 6 6 .arr false, .cell 8 6 .arr false, .keepR [3, 6, 8, 40, 2009, 2012, 2015]]), (6, [.keep [3, 6, 8, 9, 11, 20], .own 9 (.int .i64) false, .cell 6 6 .arr false, .cell 8 6 .arr false, .keepR [3, 6, 8, 40, 2009]])],
  [(39, [.keep [3, 6, 8, 9, 11], .own 9 (.int .i64) false, .cell 6 6 .arr false, .cell 8 6 .arr false, .keepR [3, 6, 8, 40, 2009]])], [], false⟩
noncomputable def sg21 : Sig := ⟨[.one (.own .str false), .one .bool], []⟩
noncomputable def fi21 : FnI := ⟨29, bodyOf Go.Proofs.Try.f21, [.tmp 6, .tmp 7],
  [],
  [],
  [], [], false⟩
noncomputable def sg22 : Sig := ⟨[.one .str], []⟩
noncomputable def fi22 : FnI := ⟨24, bodyOf Go.Proofs.Try.f22, [.tmp 4],
  [],
  [(0, [.keep [0, 1, 5, 6], .own 5 (.int .u8) false, .keepR [2005]])],
  [], [], false⟩
noncomputable def sg23 : Sig := ⟨[.one .bool], []⟩
noncomputable def fi23 : FnI := ⟨18, bodyOf Go.Proofs.Try.f23, [.tmp 4],
  [],
  [],
  [], [], false⟩
noncomputable def sg24 : Sig := ⟨[.one .bool], []⟩
noncomputable def fi24 : FnI := ⟨82, bodyOf Go.Proofs.Try.f24, [.tmp 4],
  [],
  [],
  [], [], false⟩
noncomputable def sg25 : Sig := ⟨[.one .bool], []⟩
noncomputable def fi25 : FnI := ⟨162, bodyOf Go.Proofs.Try.f25, [.tmp 6],
  [],
  [(0, [.keep [0, 1, 2, 7, 38, 39, 40], .own 38 (.int .i64) false, .keepR [7, 2038]])],
  [], [], false⟩
noncomputable def sg26 : Sig := ⟨[.one .bool], []⟩
noncomputable def fi26 : FnI := ⟨87, bodyOf Go.Proofs.Try.f26, [.tmp 6],
  [],
  [(0, [.keep [2, 7, 9], .keepR []])],
  [], [], false⟩
noncomputable def sg27 : Sig := ⟨[.one .bool], []⟩
noncomputable def fi27 : FnI := ⟨78, bodyOf Go.Proofs.Try.f27, [.tmp 6],
  [],
  [(0, [.keep [2, 9, 45, 46], .keepR []])],
  [], [], false⟩
noncomputable def sg29 : Sig := ⟨[.one .bool], []⟩
noncomputable def fi29 : FnI := ⟨220, bodyOf Go.Proofs.Try.f29, [.tmp 6],
  [],
  [(0, [.keep [5, 7, 8, 9], .keepR [5]]), (2, [.keep [5, 7, 8, 12, 13], .keepR [5]])],
  [], [], false⟩
noncomputable def sg35 : Sig := ⟨[.one .bool], []⟩
noncomputable def fi35 : FnI := ⟨99, bodyOf Go.Proofs.Try.f35, [.tmp 2],
  [],
  [(0, [.keep [1, 3, 4], .own 3 (.int .i64) false, .keepR [1, 2003]])],
  [], [], false⟩
noncomputable def sg36 : Sig := ⟨[.one (.int .i64), .one (.own .str false), .one (.int .i64)], []⟩
noncomputable def fi36 : FnI := ⟨64, bodyOf Go.Proofs.Try.f36, [.tmp 2, .tmp 3, .tmp 4],
  [],
  [(1, [.keep [0, 5, 6], .own 5 .str false, .keepR [2005]])],
  [(13, [.keep [0], .keepR []])], [], false⟩
noncomputable def sg37 : Sig := ⟨[.one (.own (.int .i64) false), .one (.int .i64)], []⟩
noncomputable def fi37 : FnI := ⟨13, bodyOf Go.Proofs.Try.f37, [.tmp 4, .tmp 5],
  [],
  [],
  [], [], false⟩
noncomputable def sg38 : Sig := ⟨[.one .bool], []⟩
noncomputable def fi38 : FnI := ⟨9, bodyOf Go.Proofs.Try.f38, [.tmp 2],
  [],
  [],
  [], [], false⟩
noncomputable def sg39 : Sig := ⟨[.one .str], []⟩
noncomputable def fi39 : FnI := ⟨31, bodyOf Go.Proofs.Try.f39, [.tmp 2],
  [],
  [(0, [.keep [0, 3, 4, 5], .own 3 .bool false, .keepR [2003]])],
  [], [], false⟩
noncomputable def sg40 : Sig := ⟨[.one (.int .i64), .one .bool], []⟩
noncomputable def fi40 : FnI := ⟨59, bodyOf Go.Proofs.Try.f40, [.tmp 2, .tmp 3],
  [],
  [(0, [.keep [0, 4, 5], .keepR []])],
  [], [], false⟩
noncomputable def sg41 : Sig := ⟨[.one .str], []⟩
noncomputable def fi41 : FnI := ⟨18, bodyOf Go.Proofs.Try.f41, [.tmp 2],
  [],
  [(0, [.keep [0, 3, 4], .keepR []])],
  [], [], false⟩
noncomputable def sg42 : Sig := ⟨[.one .str], []⟩
noncomputable def fi42 : FnI := ⟨52, bodyOf Go.Proofs.Try.f42, [.tmp 4],
  [],
  [(1, [.keep [2, 5, 7, 8], .own 5 (.int .i64) false, .own 7 .str false, .keepR [2, 2005, 2007]])],
  [], [], false⟩
noncomputable def sg43 : Sig := ⟨[.one .str], []⟩
noncomputable def fi43 : FnI := ⟨34, bodyOf Go.Proofs.Try.f43, [.tmp 2],
  [],
  [(0, [.keep [0, 3, 4], .own 3 (.int .u8) false, .keepR [2003]])],
  [], [], false⟩
noncomputable def sg44 : Sig := ⟨[.one (.own .str false), .one (.int .i64)], []⟩
noncomputable def fi44 : FnI := ⟨30, bodyOf Go.Proofs.Try.f44, [.tmp 6, .tmp 7],
  [],
  [(0, [.keep [1, 3, 5, 8, 9], .own 8 .str false, .keepR [3, 5, 2008]])],
  [], [], false⟩
noncomputable def sg45 : Sig := ⟨[.one .bool], []⟩
noncomputable def fi45 : FnI := ⟨74, bodyOf Go.Proofs.Try.f45, [.tmp 2],
  [],
  [(0, [.keep [1, 19, 20, 21], .keepR [1]]), (2, [.keep [1, 41, 42, 43], .keepR [1]])],
  [], [], false⟩
noncomputable def sg46 : Sig := ⟨[.one (.int .i64)], []⟩
noncomputable def fi46 : FnI := ⟨6, bodyOf Go.Proofs.Try.f46, [.tmp 2],
  [],
  [],
  [], [], false⟩
noncomputable def sg47 : Sig := ⟨[.one (.own (.int .i64) false), .one (.int .i64)], []⟩
noncomputable def fi47 : FnI := ⟨12, bodyOf Go.Proofs.Try.f47, [.tmp 4, .tmp 5],
  [],
  [],
  [], [], false⟩
noncomputable def sg48 : Sig := ⟨[.one .bool], []⟩
noncomputable def fi48 : FnI := ⟨56, bodyOf Go.Proofs.Try.f48, [.tmp 10],
  [],
  [(0, [.keep [0, 2, 3, 4, 11, 16, 17], .keepR []])],
  [], [], false⟩
noncomputable def sg49 : Sig := ⟨[.one .bool], []⟩
noncomputable def fi49 : FnI := ⟨8, bodyOf Go.Proofs.Try.f49, [.tmp 3],
  [],
  [],
  [], [], false⟩
noncomputable def sg50 : Sig := ⟨[.one .bool], []⟩
noncomputable def fi50 : FnI := ⟨9, bodyOf Go.Proofs.Try.f50, [.tmp 4],
  [],
  [],
  [], [], false⟩
noncomputable def sg51 : Sig := ⟨[.ptr .arr, .one .bool], []⟩
noncomputable def fi51 : FnI := ⟨54, bodyOf Go.Proofs.Try.f51, [.tmp 6, .tmp 7],
  [],
  [],
  [], [], false⟩
noncomputable def sg52 : Sig := ⟨[.one (.int .i64), .one .bool], []⟩
noncomputable def fi52 : FnI := ⟨18, bodyOf Go.Proofs.Try.f52, [.tmp 4, .tmp 5],
  [],
  [],
  [], [], false⟩
noncomputable def sg53 : Sig := ⟨[.one .bool], []⟩
noncomputable def fi53 : FnI := ⟨18, bodyOf Go.Proofs.Try.f53, [.tmp 4],
  [],
  [],
  [], [], false⟩
noncomputable def sg55 : Sig := ⟨[.one (.int .i64)], []⟩
noncomputable def fi55 : FnI := ⟨6, bodyOf Go.Proofs.Try.f55, [.tmp 2],
  [],
  [],
  [], [], false⟩
noncomputable def sg56 : Sig := ⟨[.one .bool], []⟩
noncomputable def fi56 : FnI := ⟨144, bodyOf Go.Proofs.Try.f56, [.tmp 8],
  [],
  [(1, [.keep [3, 4, 6, 9, 11], .own 9 (.int .i64) false, .keepR [4, 6, 2009]])],
  [], [], false⟩
noncomputable def sg57 : Sig := ⟨[.one (.int .i64), .one (.int .i64)], []⟩
noncomputable def fi57 : FnI := ⟨42, bodyOf Go.Proofs.Try.f57, [.tmp 6, .tmp 7],
  [],
  [],
  [], [], false⟩
noncomputable def sg58 : Sig := ⟨[.one .bool], []⟩
noncomputable def fi58 : FnI := ⟨14, bodyOf Go.Proofs.Try.f58, [.tmp 4],
  [],
  [],
  [], [], false⟩
noncomputable def sg59 : Sig := ⟨[.one .bool], []⟩
noncomputable def fi59 : FnI := ⟨15, bodyOf Go.Proofs.Try.f59, [.tmp 6],
  [],
  [],
  [], [], false⟩
noncomputable def sg60 : Sig := ⟨[.one (.own (.int .i64) false)], []⟩
noncomputable def fi60 : FnI := ⟨27, bodyOf Go.Proofs.Try.f60, [.tmp 4],
  [],
  [(0, [.keep [1, 2, 5, 6], .own 5 (.int .i64) false, .keepR [2, 2005]])],
  [], [], false⟩
noncomputable def sg61 : Sig := ⟨[.one (.int .i64)], []⟩
noncomputable def fi61 : FnI := ⟨126, bodyOf Go.Proofs.Try.f61, [.tmp 6],
  [],
  [(1, [.keep [0, 1, 2, 13], .keepR []])],
  [], [], false⟩
noncomputable def sg62 : Sig := ⟨[.one (.int .i64)], []⟩
noncomputable def fi62 : FnI := ⟨27, bodyOf Go.Proofs.Try.f62, [.tmp 6],
  [],
  [(0, [.keep [0, 1, 2, 7], .keepR []])],
  [], [], false⟩
noncomputable def sg63 : Sig := ⟨[.one .str], []⟩
noncomputable def fi63 : FnI := ⟨22, bodyOf Go.Proofs.Try.f63, [.tmp 2],
  [],
  [(0, [.keep [0, 3], .keepR []])],
  [], [], false⟩
noncomputable def sg64 : Sig := ⟨[.one .str], []⟩
noncomputable def fi64 : FnI := ⟨7, bodyOf Go.Proofs.Try.f64, [.tmp 2],
  [],
  [],
  [], [], false⟩
noncomputable def sg65 : Sig := ⟨[.one .str], []⟩
noncomputable def fi65 : FnI := ⟨167, bodyOf Go.Proofs.Try.f65, [.tmp 8],
  [],
  [(0, [.keep [1, 3, 4, 6, 9], .keepR [4, 6]]), (3, [.keep [4, 6, 10, 12, 16, 17], .own 10 (.int .i64) false, .own 12 .str false, .keepR [4, 6, 2010, 2012]]), (5, [.keep [3, 4, 6, 10, 12, 18], .own 10 (.int .i64) false, .own 12 .str false, .keepR [4, 6, 2010, 2012]])],
  [], [], false⟩
noncomputable def sg66 : Sig := ⟨[.one .bool], []⟩
noncomputable def fi66 : FnI := ⟨36, bodyOf Go.Proofs.Try.f66, [.tmp 4],
  [],
  [],
  [], [], false⟩
noncomputable def sg67 : Sig := ⟨[.one (.own (.int .i64) false)], []⟩
noncomputable def fi67 : FnI := ⟨32, bodyOf Go.Proofs.Try.f67, [.tmp 4],
  [],
  [(0, [.keep [1, 5, 11, 12, 13], .own 5 (.int .i64) false, .keepR [2005]])],
  [], [], false⟩
noncomputable def sg68 : Sig := ⟨[.one (.own (.int .i64) false)], []⟩
noncomputable def fi68 : FnI := ⟨21, bodyOf Go.Proofs.Try.f68, [.tmp 4],
  [],
  [(0, [.keep [0, 1, 5], .own 5 (.int .i64) false, .keepR [2005]])],
  [], [], false⟩
noncomputable def sg69 : Sig := ⟨[.one (.int .i64)], []⟩
noncomputable def fi69 : FnI := ⟨19, bodyOf Go.Proofs.Try.f69, [.tmp 4],
  [],
  [(0, [.keep [0, 1, 7, 8], .keepR []])],
  [], [], false⟩
noncomputable def sg70 : Sig := ⟨[.one .bool], []⟩
noncomputable def fi70 : FnI := ⟨9, bodyOf Go.Proofs.Try.f70, [.tmp 2],
  [],
  [],
  [], [], false⟩
noncomputable def sg71 : Sig := ⟨[.one (.int .i64), .one (.int .i64)], []⟩
noncomputable def fi71 : FnI := ⟨48, bodyOf Go.Proofs.Try.f71, [.tmp 6, .tmp 7],
  [],
  [],
  [], [], false⟩
noncomputable def sg72 : Sig := ⟨[.one .bool], []⟩
noncomputable def fi72 : FnI := ⟨14, bodyOf Go.Proofs.Try.f72, [.tmp 4],
  [],
  [],
  [], [], false⟩
noncomputable def sg73 : Sig := ⟨[.one .bool], []⟩
noncomputable def fi73 : FnI := ⟨12, bodyOf Go.Proofs.Try.f73, [.tmp 2],
  [],
  [],
  [], [], false⟩
noncomputable def sg74 : Sig := ⟨[.one .bool], []⟩
noncomputable def fi74 : FnI := ⟨52, bodyOf Go.Proofs.Try.f74, [.tmp 10],
  [],
  [(0, [.keep [0, 1, 2, 3, 4, 11, 12], .keepR []])],
  [], [], false⟩
noncomputable def sg75 : Sig := ⟨[.one (.int .i64)], []⟩
noncomputable def fi75 : FnI := ⟨21, bodyOf Go.Proofs.Try.f75, [.tmp 2],
  [],
  [(0, [.keep [0, 3, 4], .keepR []])],
  [], [], false⟩
noncomputable def sg76 : Sig := ⟨[.one .bool], []⟩
noncomputable def fi76 : FnI := ⟨5, bodyOf Go.Proofs.Try.f76, [.tmp 2],
  [],
  [],
  [], [], false⟩
noncomputable def sg77 : Sig := ⟨[.one .bool], []⟩
noncomputable def fi77 : FnI := ⟨14, bodyOf Go.Proofs.Try.f77, [.tmp 4],
  [],
  [],
  [], [], false⟩
noncomputable def sg78 : Sig := ⟨[.one .str], []⟩
noncomputable def fi78 : FnI := ⟨37, bodyOf Go.Proofs.Try.f78, [.tmp 2],
  [],
  [(0, [.keep [0, 3, 4], .own 4 (.int .u8) false, .keepR [2004]])],
  [(4, [.keep [0, 3], .keepR []])], [], false⟩
noncomputable def sg79 : Sig := ⟨[.one .str], []⟩
noncomputable def fi79 : FnI := ⟨7, bodyOf Go.Proofs.Try.f79, [.tmp 2],
  [],
  [],
  [], [], false⟩
noncomputable def sg80 : Sig := ⟨[.one .str], []⟩
noncomputable def fi80 : FnI := ⟨4, bodyOf Go.Proofs.Try.f80, [.tmp 2],
  [],
  [],
  [], [], false⟩
noncomputable def sg81 : Sig := ⟨[.one (.int .i64), .one (.int .i64)], []⟩
noncomputable def fi81 : FnI := ⟨25, bodyOf Go.Proofs.Try.f81, [.tmp 4, .tmp 5],
  [],
  [],
  [], [], false⟩
noncomputable def sg82 : Sig := ⟨[.one .str], []⟩
noncomputable def fi82 : FnI := ⟨10, bodyOf Go.Proofs.Try.f82, [.tmp 2],
  [],
  [],
  [], [], false⟩
noncomputable def sg83 : Sig := ⟨[.one .str], []⟩
noncomputable def fi83 : FnI := ⟨7, bodyOf Go.Proofs.Try.f83, [.tmp 2],
  [],
  [],
  [], [], false⟩
noncomputable def sg84 : Sig := ⟨[.one (.int .i64)], []⟩
noncomputable def fi84 : FnI := ⟨22, bodyOf Go.Proofs.Try.f84, [.tmp 2],
  [],
  [(0, [.keep [0, 3, 6, 7], .keepR []])],
  [], [], false⟩
noncomputable def sg85 : Sig := ⟨[.one .bool], []⟩
noncomputable def fi85 : FnI := ⟨9, bodyOf Go.Proofs.Try.f85, [.tmp 2],
  [],
  [],
  [], [], false⟩
noncomputable def tyL : List (Nat × TyI) := [
  (3, ⟨false, 1, 8, [(.int .i64 0)], some .i64, false, none, 0, [], 0, [], false, false, false, false⟩),
  (4, ⟨false, 1, 1, [(.bool false)], none, false, none, 0, [], 0, [], false, true, false, false⟩),
  (5, ⟨false, 1, 1, [(.int .u8 0)], some .u8, false, none, 0, [], 0, [], false, false, false, false⟩),
  (9, ⟨false, 1, 16, [(.str [])], none, true, none, 0, [], 0, [], false, false, false, false⟩),
  (24, ⟨true, 3, 24, [(.int .i64 0), (.int .i64 0), (.bool false)], none, false, none, 0, [], 0, [(0, 1, 3), (1, 1, 3), (2, 1, 4)], true, false, false, false⟩),
  (25, ⟨false, 1, 24, [.nils], none, false, some .node, 24, [(.int .i64 0), (.int .i64 0), (.bool false)], 24, [], false, false, false, false⟩),
  (27, ⟨true, 1, 24, [.nils], none, false, none, 0, [], 0, [(0, 1, 25)], false, false, false, false⟩),
  (28, ⟨false, 1, 24, [.nils], none, false, some .arr, 30, [(.int .i64 0), (.int .i64 0), (.int .i64 0), (.str []), (.str []), (.str []), .nils], 96, [], false, false, false, false⟩),
  (30, ⟨true, 7, 96, [(.int .i64 0), (.int .i64 0), (.int .i64 0), (.str []), (.str []), (.str []), .nils], none, false, none, 0, [], 0, [(0, 1, 3), (1, 1, 3), (2, 1, 3), (3, 1, 9), (4, 1, 9), (5, 1, 9), (6, 1, 28)], false, false, false, false⟩),
  (33, ⟨false, 1, 24, [.nils], none, false, some .str, 9, [(.str [])], 16, [], false, false, false, false⟩),
  (36, ⟨false, 1, 8, [(.int .u64 0)], some .u64, false, none, 0, [], 0, [], false, false, false, false⟩),
  (37, ⟨false, 1, 24, [.nils], none, false, some (.int .u8), 5, [(.int .u8 0)], 1, [], false, false, false, false⟩),
  (68, ⟨false, 1, 24, [.nils], none, false, some (.int .i64), 3, [(.int .i64 0)], 8, [], false, false, false, false⟩),
  (72, ⟨false, 1, 24, [.nils], none, false, some (.list .str), 33, [.nils], 24, [], false, false, false, false⟩),
  (73, ⟨false, 1, 24, [.nils], none, false, some .bool, 4, [(.bool false)], 1, [], false, false, false, false⟩),
  (111, ⟨false, 1, 8, [(.int .u64 0)], some .u64, false, none, 0, [], 0, [], false, false, false, false⟩)]
noncomputable def pkL : List (Nat × List PK) := [
  (3, [.one (.int .i64), .one (.int .i64)]),
  (6, []),
  (7, [.agg [(.list .node)], .one (.int .i64), .one (.list .str)]),
  (8, [.agg [(.list .node)], .one (.int .i64), .agg [(.int .i64), (.int .i64), (.int .i64), .str, .str, .str, (.list .arr)]]),
  (9, [.agg [(.list .node)], .one (.int .i64), .agg [(.int .i64), (.int .i64), (.int .i64), .str, .str, .str, (.list .arr)]]),
  (10, [.agg [(.int .i64), (.int .i64), (.int .i64), .str, .str, .str, (.list .arr)]]),
  (11, [.one (.int .i64)]),
  (12, [.agg [(.list .node)], .one (.int .i64), .agg [(.int .i64), (.int .i64), (.int .i64), .str, .str, .str, (.list .arr)]]),
  (18, [.agg [(.list .node)], .one (.int .i64)]),
  (19, [.agg [(.list .node)], .one (.int .i64), .one .str]),
  (20, [.agg [(.list .node)], .one (.int .i64), .one (.list .str)]),
  (21, [.agg [(.list .node)], .one (.int .i64), .agg [(.int .i64), (.int .i64), (.int .i64), .str, .str, .str, (.list .arr)]]),
  (22, [.one (.int .i64), .one (.int .i64)]),
  (23, [.agg [(.list .node)], .one (.int .i64)]),
  (24, [.ro [(.int .i64), (.int .i64), .bool], .ro [(.int .i64), (.int .i64), (.int .i64), .str, .str, .str, (.list .arr)]]),
  (25, [.ro [(.list .node)], .one (.int .i64), .ro [(.int .i64), (.int .i64), (.int .i64), .str, .str, .str, (.list .arr)]]),
  (26, [.ro [(.list .node)], .one (.int .i64), .ro [(.int .i64), (.int .i64), (.int .i64), .str, .str, .str, (.list .arr)]]),
  (27, [.ro [(.list .node)], .one (.int .i64), .ro [(.int .i64), (.int .i64), (.int .i64), .str, .str, .str, (.list .arr)]]),
  (29, [.agg [(.list .node)], .one (.int .i64), .agg [(.int .i64), (.int .i64), (.int .i64), .str, .str, .str, (.list .arr)]]),
  (35, [.agg [(.list .node)]]),
  (36, [.one .str]),
  (37, [.agg [(.list .node)], .one (.int .i64)]),
  (38, [.one (.int .i64)]),
  (39, [.one (.list .str)]),
  (40, [.one .str]),
  (41, [.one (.list .str)]),
  (42, [.agg [(.list .node)], .one (.int .i64)]),
  (43, [.one (.list .bool)]),
  (44, [.agg [(.list .node)], .one (.int .i64), .agg [(.int .i64), (.int .i64), (.int .i64), .str, .str, .str, (.list .arr)]]),
  (45, [.agg [(.list .node)]]),
  (46, [.one (.int .i64)]),
  (47, [.agg [(.list .node)], .one (.int .i64)]),
  (48, [.one .str, .one (.int .i64), .one (.int .i64), .one (.int .i64), .one (.int .i64)]),
  (49, [.agg [(.int .i64), (.int .i64), (.int .i64), .str, .str, .str, (.list .arr)], .ro [(.int .i64)]]),
  (50, [.one (.list .arr), .fn]),
  (51, [.ro [(.list .node)], .one (.int .i64), .ro [(.int .i64), (.int .i64), (.int .i64), .str, .str, .str, (.list .arr)]]),
  (52, [.one .str, .one (.int .i64)]),
  (53, [.ro [(.int .i64), (.int .i64), (.int .i64), .str, .str, .str, (.list .arr)], .one (.int .i64)]),
  (55, [.one (.int .i64)]),
  (56, [.agg [(.list .node)], .one (.int .i64), .agg [(.int .i64), (.int .i64), (.int .i64), .str, .str, .str, (.list .arr)], .one (.int .i64)]),
  (57, [.one .str, .one (.int .i64), .one (.int .i64)]),
  (58, [.agg [(.int .i64), (.int .i64), (.int .i64), .str, .str, .str, (.list .arr)], .one (.int .i64)]),
  (59, [.one (.int .i64), .one (.int .i64), .one (.int .i64)]),
  (60, [.agg [(.list .node)], .one (.int .i64)]),
  (61, [.one .str, .one (.int .i64), .one (.int .i64)]),
  (62, [.one .str, .one (.int .i64), .one (.int .u8)]),
  (63, [.one (.int .i64)]),
  (64, [.one (.list .str)]),
  (65, [.agg [(.list .node)], .one (.int .i64), .agg [(.int .i64), (.int .i64), (.int .i64), .str, .str, .str, (.list .arr)], .one (.int .i64)]),
  (66, [.ro [(.list .node)], .one (.int .i64)]),
  (67, [.ro [(.list .node)], .one (.int .i64)]),
  (68, [.ro [(.list .node)], .one (.int .i64)]),
  (69, [.one (.list .arr), .fn]),
  (70, [.one (.int .i64)]),
  (71, [.one .str, .one (.int .i64), .one (.int .i64)]),
  (72, [.one .str, .one (.int .i64)]),
  (73, [.agg [(.int .i64), (.int .i64), (.int .i64), .str, .str, .str, (.list .arr)]]),
  (74, [.one .str, .one (.int .i64), .one (.int .i64), .one (.int .i64), .one (.int .i64)]),
  (75, [.one .str]),
  (76, [.one (.int .i64)]),
  (77, [.one .str, .one (.int .i64)]),
  (78, [.one (.int .i64)]),
  (79, [.one (.int .i64)]),
  (80, [.one .bool]),
  (81, [.agg [(.int .i64), (.int .i64), (.int .i64), .str, .str, .str, (.list .arr)], .one (.int .i64)]),
  (82, [.one .str]),
  (83, [.one (.list .str)]),
  (84, [.one .str]),
  (85, [.one (.int .i64)])]
noncomputable def sgL : List (Nat × Sig) := [(3, sg3), (6, sg6), (7, sg7), (8, sg8), (9, sg9), (10, sg10), (11, sg11), (12, sg12), (18, sg18), (19, sg19), (20, sg20), (21, sg21), (22, sg22), (23, sg23), (24, sg24), (25, sg25), (26, sg26), (27, sg27), (29, sg29), (35, sg35), (36, sg36), (37, sg37), (38, sg38), (39, sg39), (40, sg40), (41, sg41), (42, sg42), (43, sg43), (44, sg44), (45, sg45), (46, sg46), (47, sg47), (48, sg48), (49, sg49), (50, sg50), (51, sg51), (52, sg52), (53, sg53), (55, sg55), (56, sg56), (57, sg57), (58, sg58), (59, sg59), (60, sg60), (61, sg61), (62, sg62), (63, sg63), (64, sg64), (65, sg65), (66, sg66), (67, sg67), (68, sg68), (69, sg69), (70, sg70), (71, sg71), (72, sg72), (73, sg73), (74, sg74), (75, sg75), (76, sg76), (77, sg77), (78, sg78), (79, sg79), (80, sg80), (81, sg81), (82, sg82), (83, sg83), (84, sg84), (85, sg85)]
noncomputable def fnL : List (Nat × FnI) := [(3, fi3), (6, fi6), (7, fi7), (8, fi8), (9, fi9), (10, fi10), (11, fi11), (12, fi12), (18, fi18), (19, fi19), (20, fi20), (21, fi21), (22, fi22), (23, fi23), (24, fi24), (25, fi25), (26, fi26), (27, fi27), (29, fi29), (35, fi35), (36, fi36), (37, fi37), (38, fi38), (39, fi39), (40, fi40), (41, fi41), (42, fi42), (43, fi43), (44, fi44), (45, fi45), (46, fi46), (47, fi47), (48, fi48), (49, fi49), (50, fi50), (51, fi51), (52, fi52), (53, fi53), (55, fi55), (56, fi56), (57, fi57), (58, fi58), (59, fi59), (60, fi60), (61, fi61), (62, fi62), (63, fi63), (64, fi64), (65, fi65), (66, fi66), (67, fi67), (68, fi68), (69, fi69), (70, fi70), (71, fi71), (72, fi72), (73, fi73), (74, fi74), (75, fi75), (76, fi76), (77, fi77), (78, fi78), (79, fi79), (80, fi80), (81, fi81), (82, fi82), (83, fi83), (84, fi84), (85, fi85)]
noncomputable def pksOf (f : FuncId) : List PK := match look f pkL with | some l => l | none => []
noncomputable def sigOf (f : FuncId) : Sig := match look f sgL with | some s => s | none => ⟨[], []⟩
noncomputable def extOf (f : FuncId) (_ : List Arg) : Option (sigOf f).den := none
noncomputable def E (bar : Bar) : Env := ⟨fun f => look f fnL, fun t => look t tyL, pksOf, sigOf, extOf, bar⟩

end Go.Proofs.YtjkokaockhecnaaA
