/- The functions, types, parameters and results of the program, as the machine is told of them: definitions alone. -/
import Derived.Test.YtppmpfddcohkjaaProg
import Derived.Test.YtppmpfddcohkjaaExt
namespace Go.Proofs.YtppmpfddcohkjaaA
open Go
set_option linter.unusedVariables false

noncomputable def bodyOf (f : Func) : Code := match f.body with | some c => c | none => .skip

noncomputable def sg4 : Sig := ⟨[.one .bool], []⟩
noncomputable def fi4 : FnI := ⟨186, bodyOf Go.Proofs.Try.f4, [.tmp 4],
  [(5, [.froze 20 0])],
  [],
  [(53, [.keep [6, 7, 9, 11, 13], .cell 13 6 .arr false, .cell 6 0 .node true, .keepR [6, 7, 9, 11, 13]])], [24], false⟩
noncomputable def sg19 : Sig := ⟨[.agg [(.int .i64), (.int .i64), (.int .i64), .str, .str, .str, (.own .arr false)]], []⟩
noncomputable def fi19 : FnI := ⟨24, bodyOf Go.Proofs.Try.f19, [.cell 2 27],
  [],
  [(0, [.keep [1, 2, 3, 4], .own 3 .arr false, .cell 2 6 .arr false, .keepR [1, 2, 2003]])],
  [], [18], false⟩
noncomputable def sg20 : Sig := ⟨[.one .bool], []⟩
noncomputable def fi20 : FnI := ⟨33, bodyOf Go.Proofs.Try.f20, [.tmp 6],
  [],
  [],
  [], [], false⟩
noncomputable def sg21 : Sig := ⟨[.one .bool], []⟩
noncomputable def fi21 : FnI := ⟨220, bodyOf Go.Proofs.Try.f21, [.tmp 6],
  [],
  [(0, [.keep [5, 7, 8, 9], .keepR [5]]), (2, [.keep [5, 7, 8, 12, 13], .keepR [5]])],
  [], [], false⟩
noncomputable def sg24 : Sig := ⟨[.one .bool], []⟩
noncomputable def fi24 : FnI := ⟨34, bodyOf Go.Proofs.Try.f24, [.tmp 0],
  [],
  [],
  [], [], false⟩
noncomputable def sg25 : Sig := ⟨[.el .arr, .one (.int .i64)], []⟩
noncomputable def fi25 : FnI := ⟨42, bodyOf Go.Proofs.Try.f25, [.cell 6 27, .tmp 7],
  [],
  [(0, [.keep [1, 2, 3, 6, 8], .cell 6 6 .arr false, .keepR [3, 6]])],
  [], [], false⟩
noncomputable def sg26 : Sig := ⟨[.el .arr, .one (.int .i64)], []⟩
noncomputable def fi26 : FnI := ⟨96, bodyOf Go.Proofs.Try.f26, [.cell 6 27, .tmp 7],
  [(4, [.froze 22 0]), (18, [.froze 2013 0])],
  [(0, [.keep [1, 3, 6, 8, 12, 13, 14], .own 8 .str true, .own 13 .str false, .cell 12 6 .arr false, .cell 6 6 .arr false, .keepR [3, 6, 12, 2008, 2013]]), (2, [.keep [1, 3, 6, 8, 12, 13, 14, 15], .own 8 .str true, .own 13 .str false, .cell 12 6 .arr false, .cell 6 6 .arr false, .keepR [3, 6, 12, 2008, 2013]])],
  [], [], false⟩
noncomputable def sg27 : Sig := ⟨[.el .arr, .one (.int .i64)], []⟩
noncomputable def fi27 : FnI := ⟨76, bodyOf Go.Proofs.Try.f27, [.cell 6 27, .tmp 7],
  [(12, [.froze 2011 0])],
  [(0, [.keep [1, 3, 6, 8, 10, 11, 12], .own 8 .str false, .own 11 .str false, .cell 10 6 .arr false, .cell 6 6 .arr false, .keepR [3, 6, 10, 2008, 2011]])],
  [], [], false⟩
noncomputable def sg28 : Sig := ⟨[.one (.int .i64)], []⟩
noncomputable def fi28 : FnI := ⟨4, bodyOf Go.Proofs.Try.f28, [.tmp 2],
  [],
  [],
  [], [], false⟩
noncomputable def sg29 : Sig := ⟨[.one (.own .str false), .one (.int .i64)], []⟩
noncomputable def fi29 : FnI := ⟨30, bodyOf Go.Proofs.Try.f29, [.tmp 6, .tmp 7],
  [],
  [(0, [.keep [1, 3, 5, 8, 9], .own 8 .str false, .keepR [3, 5, 2008]])],
  [], [], false⟩
noncomputable def sg44 : Sig := ⟨[.one .bool], []⟩
noncomputable def fi44 : FnI := ⟨18, bodyOf Go.Proofs.Try.f44, [.tmp 4],
  [],
  [],
  [], [], false⟩
noncomputable def sg45 : Sig := ⟨[.one .bool], []⟩
noncomputable def fi45 : FnI := ⟨82, bodyOf Go.Proofs.Try.f45, [.tmp 4],
  [],
  [],
  [], [], false⟩
noncomputable def sg46 : Sig := ⟨[.one .bool], []⟩
noncomputable def fi46 : FnI := ⟨162, bodyOf Go.Proofs.Try.f46, [.tmp 6],
  [],
  [(0, [.keep [0, 1, 2, 7, 38, 39, 40], .own 38 (.int .i64) false, .keepR [7, 2038]])],
  [], [], false⟩
noncomputable def sg47 : Sig := ⟨[.one .bool], []⟩
noncomputable def fi47 : FnI := ⟨87, bodyOf Go.Proofs.Try.f47, [.tmp 6],
  [],
  [(0, [.keep [2, 7, 9], .keepR []])],
  [], [], false⟩
noncomputable def sg48 : Sig := ⟨[.one .bool], []⟩
noncomputable def fi48 : FnI := ⟨78, bodyOf Go.Proofs.Try.f48, [.tmp 6],
  [],
  [(0, [.keep [2, 9, 45, 46], .keepR []])],
  [], [], false⟩
noncomputable def sg49 : Sig := ⟨[.one .bool], []⟩
noncomputable def fi49 : FnI := ⟨18, bodyOf Go.Proofs.Try.f49, [.tmp 4],
  [],
  [],
  [], [], false⟩
noncomputable def sg50 : Sig := ⟨[.one (.int .i64)], []⟩
noncomputable def fi50 : FnI := ⟨6, bodyOf Go.Proofs.Try.f50, [.tmp 2],
  [],
  [],
  [], [], false⟩
noncomputable def sg51 : Sig := ⟨[.one .bool], []⟩
noncomputable def fi51 : FnI := ⟨144, bodyOf Go.Proofs.Try.f51, [.tmp 8],
  [],
  [(1, [.keep [3, 4, 6, 9, 11], .own 9 (.int .i64) false, .keepR [4, 6, 2009]])],
  [], [], false⟩
noncomputable def sg52 : Sig := ⟨[.one .bool], []⟩
noncomputable def fi52 : FnI := ⟨9, bodyOf Go.Proofs.Try.f52, [.tmp 2],
  [],
  [],
  [], [], false⟩
noncomputable def sg53 : Sig := ⟨[.one (.int .i64), .one (.int .i64)], []⟩
noncomputable def fi53 : FnI := ⟨42, bodyOf Go.Proofs.Try.f53, [.tmp 6, .tmp 7],
  [],
  [],
  [], [], false⟩
noncomputable def sg54 : Sig := ⟨[.one .bool], []⟩
noncomputable def fi54 : FnI := ⟨14, bodyOf Go.Proofs.Try.f54, [.tmp 4],
  [],
  [],
  [], [], false⟩
noncomputable def sg56 : Sig := ⟨[.one .bool], []⟩
noncomputable def fi56 : FnI := ⟨105, bodyOf Go.Proofs.Try.f56, [.tmp 6],
  [],
  [(0, [.keep [3, 8, 9, 11, 13], .own 9 .str false, .own 11 (.int .i64) false, .keepR [3, 2009, 2011]])],
  [], [], false⟩
noncomputable def sg57 : Sig := ⟨[.el .arr, .one .bool], []⟩
noncomputable def fi57 : FnI := ⟨222, bodyOf Go.Proofs.Try.f57, [.cell 6 27, .tmp 7],
  [],
  [(0, [.keep [1, 2, 3, 6, 8, 9, 11, 12, 13], .own 9 (.int .i64) false, .own 12 .bool false, .cell 6 6 .arr false, .cell 8 6 .arr false, .keepR [3, 6, 8, 40, 2009, 2012]]), (3, [.keep [1, 2, 3, 6, 8, 9, 11, 12, 13, 14, 15, 18], .own 9 (.int .i64) false, .own 12 .bool false, .own 15 .str false, .cell 6 6 .arr false, .cell 8 6 .arr false, .keepR [3, 6, 8, 40, 2009, 2012, 2015]]), (6, [.keep [3, 6, 8, 9, 11, 20], .own 9 (.int .i64) false, .cell 6 6 .arr false, .cell 8 6 .arr false, .keepR [3, 6, 8, 40, 2009]])],
  [(39, [.keep [3, 6, 8, 9, 11], .own 9 (.int .i64) false, .cell 6 6 .arr false, .cell 8 6 .arr false, .keepR [3, 6, 8, 40, 2009]])], [], false⟩
noncomputable def sg58 : Sig := ⟨[.one (.own .str false), .one .bool], []⟩
noncomputable def fi58 : FnI := ⟨29, bodyOf Go.Proofs.Try.f58, [.tmp 6, .tmp 7],
  [],
  [],
  [], [], false⟩
noncomputable def sg59 : Sig := ⟨[.one .str], []⟩
noncomputable def fi59 : FnI := ⟨24, bodyOf Go.Proofs.Try.f59, [.tmp 4],
  [],
  [(0, [.keep [0, 1, 5, 6], .own 5 (.int .u8) false, .keepR [2005]])],
  [], [], false⟩
noncomputable def sg60 : Sig := ⟨[.one .str], []⟩
noncomputable def fi60 : FnI := ⟨167, bodyOf Go.Proofs.Try.f60, [.tmp 8],
  [],
  [(0, [.keep [1, 3, 4, 6, 9], .keepR [4, 6]]), (3, [.keep [4, 6, 10, 12, 16, 17], .own 10 (.int .i64) false, .own 12 .str false, .keepR [4, 6, 2010, 2012]]), (5, [.keep [3, 4, 6, 10, 12, 18], .own 10 (.int .i64) false, .own 12 .str false, .keepR [4, 6, 2010, 2012]])],
  [], [], false⟩
noncomputable def sg72 : Sig := ⟨[.one (.int .i64)], []⟩
noncomputable def fi72 : FnI := ⟨6, bodyOf Go.Proofs.Try.f72, [.tmp 2],
  [],
  [],
  [], [], false⟩
noncomputable def sg83 : Sig := ⟨[.one (.int .i64)], []⟩
noncomputable def fi83 : FnI := ⟨21, bodyOf Go.Proofs.Try.f83, [.tmp 2],
  [],
  [(0, [.keep [0, 3, 4], .keepR []])],
  [], [], false⟩
noncomputable def sg84 : Sig := ⟨[.one .bool], []⟩
noncomputable def fi84 : FnI := ⟨14, bodyOf Go.Proofs.Try.f84, [.tmp 4],
  [],
  [],
  [], [], false⟩
noncomputable def sg85 : Sig := ⟨[.one .bool], []⟩
noncomputable def fi85 : FnI := ⟨74, bodyOf Go.Proofs.Try.f85, [.tmp 2],
  [],
  [(0, [.keep [1, 19, 20, 21], .keepR [1]]), (2, [.keep [1, 41, 42, 43], .keepR [1]])],
  [], [], false⟩
noncomputable def sg86 : Sig := ⟨[.one (.own (.int .i64) false), .one (.int .i64)], []⟩
noncomputable def fi86 : FnI := ⟨12, bodyOf Go.Proofs.Try.f86, [.tmp 4, .tmp 5],
  [],
  [],
  [], [], false⟩
noncomputable def sg87 : Sig := ⟨[.one .bool], []⟩
noncomputable def fi87 : FnI := ⟨56, bodyOf Go.Proofs.Try.f87, [.tmp 10],
  [],
  [(0, [.keep [0, 2, 3, 4, 11, 16, 17], .keepR []])],
  [], [], false⟩
noncomputable def sg88 : Sig := ⟨[.one .bool], []⟩
noncomputable def fi88 : FnI := ⟨8, bodyOf Go.Proofs.Try.f88, [.tmp 3],
  [],
  [],
  [], [], false⟩
noncomputable def sg89 : Sig := ⟨[.one .bool], []⟩
noncomputable def fi89 : FnI := ⟨9, bodyOf Go.Proofs.Try.f89, [.tmp 4],
  [],
  [],
  [], [], false⟩
noncomputable def sg90 : Sig := ⟨[.ptr .arr, .one .bool], []⟩
noncomputable def fi90 : FnI := ⟨54, bodyOf Go.Proofs.Try.f90, [.tmp 6, .tmp 7],
  [],
  [],
  [], [], false⟩
noncomputable def sg91 : Sig := ⟨[.one (.int .i64), .one .bool], []⟩
noncomputable def fi91 : FnI := ⟨18, bodyOf Go.Proofs.Try.f91, [.tmp 4, .tmp 5],
  [],
  [],
  [], [], false⟩
noncomputable def sg92 : Sig := ⟨[.one .bool], []⟩
noncomputable def fi92 : FnI := ⟨18, bodyOf Go.Proofs.Try.f92, [.tmp 4],
  [],
  [],
  [], [], false⟩
noncomputable def sg93 : Sig := ⟨[.one .bool], []⟩
noncomputable def fi93 : FnI := ⟨99, bodyOf Go.Proofs.Try.f93, [.tmp 2],
  [],
  [(0, [.keep [1, 3, 4], .own 3 (.int .i64) false, .keepR [1, 2003]])],
  [], [], false⟩
noncomputable def sg94 : Sig := ⟨[.one (.own (.int .i64) false), .one (.int .i64)], []⟩
noncomputable def fi94 : FnI := ⟨13, bodyOf Go.Proofs.Try.f94, [.tmp 4, .tmp 5],
  [],
  [],
  [], [], false⟩
noncomputable def sg95 : Sig := ⟨[.one .bool], []⟩
noncomputable def fi95 : FnI := ⟨12, bodyOf Go.Proofs.Try.f95, [.tmp 2],
  [],
  [],
  [], [], false⟩
noncomputable def sg96 : Sig := ⟨[.one .bool], []⟩
noncomputable def fi96 : FnI := ⟨52, bodyOf Go.Proofs.Try.f96, [.tmp 10],
  [],
  [(0, [.keep [0, 1, 2, 3, 4, 11, 12], .keepR []])],
  [], [], false⟩
noncomputable def sg97 : Sig := ⟨[.one .bool], []⟩
noncomputable def fi97 : FnI := ⟨5, bodyOf Go.Proofs.Try.f97, [.tmp 2],
  [],
  [],
  [], [], false⟩
noncomputable def sg98 : Sig := ⟨[.one (.int .i64), .one (.own .str false), .one (.int .i64)], []⟩
noncomputable def fi98 : FnI := ⟨64, bodyOf Go.Proofs.Try.f98, [.tmp 2, .tmp 3, .tmp 4],
  [],
  [(1, [.keep [0, 5, 6], .own 5 .str false, .keepR [2005]])],
  [(13, [.keep [0], .keepR []])], [], false⟩
noncomputable def sg99 : Sig := ⟨[.one .str], []⟩
noncomputable def fi99 : FnI := ⟨31, bodyOf Go.Proofs.Try.f99, [.tmp 2],
  [],
  [(0, [.keep [0, 3, 4, 5], .own 3 .bool false, .keepR [2003]])],
  [], [], false⟩
noncomputable def sg100 : Sig := ⟨[.one (.int .i64), .one .bool], []⟩
noncomputable def fi100 : FnI := ⟨59, bodyOf Go.Proofs.Try.f100, [.tmp 2, .tmp 3],
  [],
  [(0, [.keep [0, 4, 5], .keepR []])],
  [], [], false⟩
noncomputable def sg101 : Sig := ⟨[.one .str], []⟩
noncomputable def fi101 : FnI := ⟨18, bodyOf Go.Proofs.Try.f101, [.tmp 2],
  [],
  [(0, [.keep [0, 3, 4], .keepR []])],
  [], [], false⟩
noncomputable def sg102 : Sig := ⟨[.one .str], []⟩
noncomputable def fi102 : FnI := ⟨52, bodyOf Go.Proofs.Try.f102, [.tmp 4],
  [],
  [(1, [.keep [2, 5, 7, 8], .own 5 (.int .i64) false, .own 7 .str false, .keepR [2, 2005, 2007]])],
  [], [], false⟩
noncomputable def sg103 : Sig := ⟨[.one .str], []⟩
noncomputable def fi103 : FnI := ⟨34, bodyOf Go.Proofs.Try.f103, [.tmp 2],
  [],
  [(0, [.keep [0, 3, 4], .own 3 (.int .u8) false, .keepR [2003]])],
  [], [], false⟩
noncomputable def sg104 : Sig := ⟨[.one .str], []⟩
noncomputable def fi104 : FnI := ⟨7, bodyOf Go.Proofs.Try.f104, [.tmp 2],
  [],
  [],
  [], [], false⟩
noncomputable def sg105 : Sig := ⟨[.one .str], []⟩
noncomputable def fi105 : FnI := ⟨4, bodyOf Go.Proofs.Try.f105, [.tmp 2],
  [],
  [],
  [], [], false⟩
noncomputable def sg106 : Sig := ⟨[.one (.int .i64), .one (.int .i64)], []⟩
noncomputable def fi106 : FnI := ⟨25, bodyOf Go.Proofs.Try.f106, [.tmp 4, .tmp 5],
  [],
  [],
  [], [], false⟩
noncomputable def sg107 : Sig := ⟨[.one .str], []⟩
noncomputable def fi107 : FnI := ⟨10, bodyOf Go.Proofs.Try.f107, [.tmp 2],
  [],
  [],
  [], [], false⟩
noncomputable def sg108 : Sig := ⟨[.one .str], []⟩
noncomputable def fi108 : FnI := ⟨7, bodyOf Go.Proofs.Try.f108, [.tmp 2],
  [],
  [],
  [], [], false⟩
noncomputable def sg109 : Sig := ⟨[.one .str], []⟩
noncomputable def fi109 : FnI := ⟨7, bodyOf Go.Proofs.Try.f109, [.tmp 2],
  [],
  [],
  [], [], false⟩
noncomputable def sg113 : Sig := ⟨[.one .bool], []⟩
noncomputable def fi113 : FnI := ⟨9, bodyOf Go.Proofs.Try.f113, [.tmp 2],
  [],
  [],
  [], [], false⟩
noncomputable def sg116 : Sig := ⟨[.one (.int .i64)], []⟩
noncomputable def fi116 : FnI := ⟨22, bodyOf Go.Proofs.Try.f116, [.tmp 2],
  [],
  [(0, [.keep [0, 3, 6, 7], .keepR []])],
  [], [], false⟩
noncomputable def sg119 : Sig := ⟨[.one .bool], []⟩
noncomputable def fi119 : FnI := ⟨14, bodyOf Go.Proofs.Try.f119, [.tmp 4],
  [],
  [],
  [], [], false⟩
noncomputable def sg120 : Sig := ⟨[.one .bool], []⟩
noncomputable def fi120 : FnI := ⟨36, bodyOf Go.Proofs.Try.f120, [.tmp 4],
  [],
  [],
  [], [], false⟩
noncomputable def sg121 : Sig := ⟨[.one (.own (.int .i64) false)], []⟩
noncomputable def fi121 : FnI := ⟨32, bodyOf Go.Proofs.Try.f121, [.tmp 4],
  [],
  [(0, [.keep [1, 5, 11, 12, 13], .own 5 (.int .i64) false, .keepR [2005]])],
  [], [], false⟩
noncomputable def sg122 : Sig := ⟨[.one (.own (.int .i64) false)], []⟩
noncomputable def fi122 : FnI := ⟨21, bodyOf Go.Proofs.Try.f122, [.tmp 4],
  [],
  [(0, [.keep [0, 1, 5], .own 5 (.int .i64) false, .keepR [2005]])],
  [], [], false⟩
noncomputable def sg123 : Sig := ⟨[.one (.int .i64)], []⟩
noncomputable def fi123 : FnI := ⟨19, bodyOf Go.Proofs.Try.f123, [.tmp 4],
  [],
  [(0, [.keep [0, 1, 7, 8], .keepR []])],
  [], [], false⟩
noncomputable def sg124 : Sig := ⟨[.one .bool], []⟩
noncomputable def fi124 : FnI := ⟨9, bodyOf Go.Proofs.Try.f124, [.tmp 2],
  [],
  [],
  [], [], false⟩
noncomputable def sg125 : Sig := ⟨[.one (.int .i64), .one (.int .i64)], []⟩
noncomputable def fi125 : FnI := ⟨48, bodyOf Go.Proofs.Try.f125, [.tmp 6, .tmp 7],
  [],
  [],
  [], [], false⟩
noncomputable def sg126 : Sig := ⟨[.one .bool], []⟩
noncomputable def fi126 : FnI := ⟨15, bodyOf Go.Proofs.Try.f126, [.tmp 6],
  [],
  [],
  [], [], false⟩
noncomputable def sg127 : Sig := ⟨[.one (.own (.int .i64) false)], []⟩
noncomputable def fi127 : FnI := ⟨27, bodyOf Go.Proofs.Try.f127, [.tmp 4],
  [],
  [(0, [.keep [1, 2, 5, 6], .own 5 (.int .i64) false, .keepR [2, 2005]])],
  [], [], false⟩
noncomputable def sg128 : Sig := ⟨[.one (.int .i64)], []⟩
noncomputable def fi128 : FnI := ⟨126, bodyOf Go.Proofs.Try.f128, [.tmp 6],
  [],
  [(1, [.keep [0, 1, 2, 13], .keepR []])],
  [], [], false⟩
noncomputable def sg129 : Sig := ⟨[.one (.int .i64)], []⟩
noncomputable def fi129 : FnI := ⟨27, bodyOf Go.Proofs.Try.f129, [.tmp 6],
  [],
  [(0, [.keep [0, 1, 2, 7], .keepR []])],
  [], [], false⟩
noncomputable def sg130 : Sig := ⟨[.one .str], []⟩
noncomputable def fi130 : FnI := ⟨22, bodyOf Go.Proofs.Try.f130, [.tmp 2],
  [],
  [(0, [.keep [0, 3], .keepR []])],
  [], [], false⟩
noncomputable def sg131 : Sig := ⟨[.one .str], []⟩
noncomputable def fi131 : FnI := ⟨37, bodyOf Go.Proofs.Try.f131, [.tmp 2],
  [],
  [(0, [.keep [0, 3, 4], .own 4 (.int .u8) false, .keepR [2004]])],
  [(4, [.keep [0, 3], .keepR []])], [], false⟩
noncomputable def tyL : List (Nat × TyI) := [
  (3, ⟨false, 1, 8, [(.int .i64 0)], some .i64, false, none, 0, [], 0, [], false, false, false⟩),
  (4, ⟨false, 1, 1, [(.bool false)], none, false, none, 0, [], 0, [], false, true, false⟩),
  (5, ⟨false, 1, 1, [(.int .u8 0)], some .u8, false, none, 0, [], 0, [], false, false, false⟩),
  (9, ⟨false, 1, 16, [(.str [])], none, true, none, 0, [], 0, [], false, false, false⟩),
  (22, ⟨false, 1, 24, [.nils], none, false, some .node, 35, [(.int .i64 0), (.int .i64 0), (.bool false)], 24, [], false, false, false⟩),
  (24, ⟨true, 1, 24, [.nils], none, false, none, 0, [], 0, [(0, 1, 22)], false, false, false⟩),
  (25, ⟨false, 1, 24, [.nils], none, false, some .arr, 27, [(.int .i64 0), (.int .i64 0), (.int .i64 0), (.str []), (.str []), (.str []), .nils], 96, [], false, false, false⟩),
  (27, ⟨true, 7, 96, [(.int .i64 0), (.int .i64 0), (.int .i64 0), (.str []), (.str []), (.str []), .nils], none, false, none, 0, [], 0, [(0, 1, 3), (1, 1, 3), (2, 1, 3), (3, 1, 9), (4, 1, 9), (5, 1, 9), (6, 1, 25)], false, false, false⟩),
  (35, ⟨true, 3, 24, [(.int .i64 0), (.int .i64 0), (.bool false)], none, false, none, 0, [], 0, [(0, 1, 3), (1, 1, 3), (2, 1, 4)], true, false, false⟩),
  (38, ⟨false, 1, 24, [.nils], none, false, some .str, 9, [(.str [])], 16, [], false, false, false⟩),
  (40, ⟨false, 1, 8, [(.int .u64 0)], some .u64, false, none, 0, [], 0, [], false, false, false⟩),
  (41, ⟨false, 1, 24, [.nils], none, false, some (.int .u8), 5, [(.int .u8 0)], 1, [], false, false, false⟩),
  (57, ⟨false, 1, 24, [.nils], none, false, some (.int .i64), 3, [(.int .i64 0)], 8, [], false, false, false⟩),
  (130, ⟨false, 1, 24, [.nils], none, false, some (.list .str), 38, [.nils], 24, [], false, false, false⟩),
  (131, ⟨false, 1, 24, [.nils], none, false, some .bool, 4, [(.bool false)], 1, [], false, false, false⟩),
  (143, ⟨false, 1, 8, [(.int .u64 0)], some .u64, false, none, 0, [], 0, [], false, false, false⟩)]
noncomputable def pkL : List (Nat × List PK) := [
  (4, [.one (.int .i64), .one (.int .i64)]),
  (19, [.agg [(.int .i64), (.int .i64), (.int .i64), .str, .str, .str, (.list .arr)]]),
  (20, [.agg [(.list .node)], .one (.int .i64), .agg [(.int .i64), (.int .i64), (.int .i64), .str, .str, .str, (.list .arr)]]),
  (21, [.agg [(.list .node)], .one (.int .i64), .agg [(.int .i64), (.int .i64), (.int .i64), .str, .str, .str, (.list .arr)]]),
  (24, []),
  (25, [.agg [(.list .node)], .one (.int .i64), .one (.list .str)]),
  (26, [.agg [(.list .node)], .one (.int .i64), .agg [(.int .i64), (.int .i64), (.int .i64), .str, .str, .str, (.list .arr)]]),
  (27, [.agg [(.list .node)], .one (.int .i64), .agg [(.int .i64), (.int .i64), (.int .i64), .str, .str, .str, (.list .arr)]]),
  (28, [.one (.int .i64)]),
  (29, [.agg [(.list .node)], .one (.int .i64), .agg [(.int .i64), (.int .i64), (.int .i64), .str, .str, .str, (.list .arr)]]),
  (44, [.agg [(.list .node)], .one (.int .i64)]),
  (45, [.ro [(.int .i64), (.int .i64), .bool], .ro [(.int .i64), (.int .i64), (.int .i64), .str, .str, .str, (.list .arr)]]),
  (46, [.ro [(.list .node)], .one (.int .i64), .ro [(.int .i64), (.int .i64), (.int .i64), .str, .str, .str, (.list .arr)]]),
  (47, [.ro [(.list .node)], .one (.int .i64), .ro [(.int .i64), (.int .i64), (.int .i64), .str, .str, .str, (.list .arr)]]),
  (48, [.ro [(.list .node)], .one (.int .i64), .ro [(.int .i64), (.int .i64), (.int .i64), .str, .str, .str, (.list .arr)]]),
  (49, [.agg [(.list .node)], .one (.int .i64)]),
  (50, [.one (.int .i64)]),
  (51, [.agg [(.list .node)], .one (.int .i64), .agg [(.int .i64), (.int .i64), (.int .i64), .str, .str, .str, (.list .arr)], .one (.int .i64)]),
  (52, [.one (.int .i64)]),
  (53, [.one .str, .one (.int .i64), .one (.int .i64)]),
  (54, [.agg [(.int .i64), (.int .i64), (.int .i64), .str, .str, .str, (.list .arr)], .one (.int .i64)]),
  (56, [.agg [(.list .node)], .one (.int .i64), .one .str]),
  (57, [.agg [(.list .node)], .one (.int .i64), .one (.list .str)]),
  (58, [.agg [(.list .node)], .one (.int .i64), .agg [(.int .i64), (.int .i64), (.int .i64), .str, .str, .str, (.list .arr)]]),
  (59, [.one (.int .i64), .one (.int .i64)]),
  (60, [.agg [(.list .node)], .one (.int .i64), .agg [(.int .i64), (.int .i64), (.int .i64), .str, .str, .str, (.list .arr)], .one (.int .i64)]),
  (72, [.one (.int .i64)]),
  (83, [.one .str]),
  (84, [.one .str, .one (.int .i64)]),
  (85, [.agg [(.list .node)]]),
  (86, [.agg [(.list .node)], .one (.int .i64)]),
  (87, [.one .str, .one (.int .i64), .one (.int .i64), .one (.int .i64), .one (.int .i64)]),
  (88, [.agg [(.int .i64), (.int .i64), (.int .i64), .str, .str, .str, (.list .arr)], .ro [(.int .i64)]]),
  (89, [.one (.list .arr), .fn]),
  (90, [.ro [(.list .node)], .one (.int .i64), .ro [(.int .i64), (.int .i64), (.int .i64), .str, .str, .str, (.list .arr)]]),
  (91, [.one .str, .one (.int .i64)]),
  (92, [.ro [(.int .i64), (.int .i64), (.int .i64), .str, .str, .str, (.list .arr)], .one (.int .i64)]),
  (93, [.agg [(.list .node)]]),
  (94, [.agg [(.list .node)], .one (.int .i64)]),
  (95, [.agg [(.int .i64), (.int .i64), (.int .i64), .str, .str, .str, (.list .arr)]]),
  (96, [.one .str, .one (.int .i64), .one (.int .i64), .one (.int .i64), .one (.int .i64)]),
  (97, [.one (.int .i64)]),
  (98, [.one .str]),
  (99, [.one (.list .str)]),
  (100, [.one .str]),
  (101, [.one (.list .str)]),
  (102, [.agg [(.list .node)], .one (.int .i64)]),
  (103, [.one (.list .bool)]),
  (104, [.one (.int .i64)]),
  (105, [.one .bool]),
  (106, [.agg [(.int .i64), (.int .i64), (.int .i64), .str, .str, .str, (.list .arr)], .one (.int .i64)]),
  (107, [.one .str]),
  (108, [.one (.list .str)]),
  (109, [.one (.list .str)]),
  (113, [.one (.int .i64)]),
  (116, [.one .str]),
  (119, [.one .str, .one (.int .i64)]),
  (120, [.ro [(.list .node)], .one (.int .i64)]),
  (121, [.ro [(.list .node)], .one (.int .i64)]),
  (122, [.ro [(.list .node)], .one (.int .i64)]),
  (123, [.one (.list .arr), .fn]),
  (124, [.one (.int .i64)]),
  (125, [.one .str, .one (.int .i64), .one (.int .i64)]),
  (126, [.one (.int .i64), .one (.int .i64), .one (.int .i64)]),
  (127, [.agg [(.list .node)], .one (.int .i64)]),
  (128, [.one .str, .one (.int .i64), .one (.int .i64)]),
  (129, [.one .str, .one (.int .i64), .one (.int .u8)]),
  (130, [.one (.int .i64)]),
  (131, [.one (.int .i64)])]
noncomputable def sgL : List (Nat × Sig) := [(4, sg4), (19, sg19), (20, sg20), (21, sg21), (24, sg24), (25, sg25), (26, sg26), (27, sg27), (28, sg28), (29, sg29), (44, sg44), (45, sg45), (46, sg46), (47, sg47), (48, sg48), (49, sg49), (50, sg50), (51, sg51), (52, sg52), (53, sg53), (54, sg54), (56, sg56), (57, sg57), (58, sg58), (59, sg59), (60, sg60), (72, sg72), (83, sg83), (84, sg84), (85, sg85), (86, sg86), (87, sg87), (88, sg88), (89, sg89), (90, sg90), (91, sg91), (92, sg92), (93, sg93), (94, sg94), (95, sg95), (96, sg96), (97, sg97), (98, sg98), (99, sg99), (100, sg100), (101, sg101), (102, sg102), (103, sg103), (104, sg104), (105, sg105), (106, sg106), (107, sg107), (108, sg108), (109, sg109), (113, sg113), (116, sg116), (119, sg119), (120, sg120), (121, sg121), (122, sg122), (123, sg123), (124, sg124), (125, sg125), (126, sg126), (127, sg127), (128, sg128), (129, sg129), (130, sg130), (131, sg131)]
noncomputable def fnL : List (Nat × FnI) := [(4, fi4), (19, fi19), (20, fi20), (21, fi21), (24, fi24), (25, fi25), (26, fi26), (27, fi27), (28, fi28), (29, fi29), (44, fi44), (45, fi45), (46, fi46), (47, fi47), (48, fi48), (49, fi49), (50, fi50), (51, fi51), (52, fi52), (53, fi53), (54, fi54), (56, fi56), (57, fi57), (58, fi58), (59, fi59), (60, fi60), (72, fi72), (83, fi83), (84, fi84), (85, fi85), (86, fi86), (87, fi87), (88, fi88), (89, fi89), (90, fi90), (91, fi91), (92, fi92), (93, fi93), (94, fi94), (95, fi95), (96, fi96), (97, fi97), (98, fi98), (99, fi99), (100, fi100), (101, fi101), (102, fi102), (103, fi103), (104, fi104), (105, fi105), (106, fi106), (107, fi107), (108, fi108), (109, fi109), (113, fi113), (116, fi116), (119, fi119), (120, fi120), (121, fi121), (122, fi122), (123, fi123), (124, fi124), (125, fi125), (126, fi126), (127, fi127), (128, fi128), (129, fi129), (130, fi130), (131, fi131)]
noncomputable def pksOf (f : FuncId) : List PK := match look f pkL with | some l => l | none => []
noncomputable def sigOf (f : FuncId) : Sig := match look f sgL with | some s => s | none => ⟨[], []⟩
noncomputable def extOf (f : FuncId) (_ : List Arg) : Option (sigOf f).den := none
noncomputable def E (bar : Bar) : Env := ⟨fun f => look f fnL, fun t => look t tyL, pksOf, sigOf, extOf, bar⟩

end Go.Proofs.YtppmpfddcohkjaaA
