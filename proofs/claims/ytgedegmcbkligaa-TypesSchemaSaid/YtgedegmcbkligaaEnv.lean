/- The functions, types, parameters and results of the program, as the machine is told of them: definitions alone. -/
import Derived.Test.YtgedegmcbkligaaProg
import Derived.Test.YtgedegmcbkligaaAbs
namespace Go.Proofs.YtgedegmcbkligaaA
open Go
set_option linter.unusedVariables false

noncomputable def bodyOf (f : Func) : Code := match f.body with | some c => c | none => .skip

noncomputable def sg3 : Sig := ⟨[.one .bool], []⟩
noncomputable def fi3 : FnI := ⟨127, bodyOf Go.Proofs.Try.f3, [.tmp 8],
  [],
  [],
  [], []⟩
noncomputable def sg4 : Sig := ⟨[.one .bool], []⟩
noncomputable def fi4 : FnI := ⟨130, bodyOf Go.Proofs.Try.f4, [.tmp 4],
  [],
  [],
  [], []⟩
noncomputable def sg5 : Sig := ⟨[.one .bool], []⟩
noncomputable def fi5 : FnI := ⟨188, bodyOf Go.Proofs.Try.f5, [.tmp 4],
  [],
  [],
  [], []⟩
noncomputable def sg6 : Sig := ⟨[.one .bool], []⟩
noncomputable def fi6 : FnI := ⟨70, bodyOf Go.Proofs.Try.f6, [.tmp 2],
  [],
  [(0, [.keep [0, 3, 4], .keepR []]), (2, [.keep [0, 3, 7, 8], .keepR []])],
  [], []⟩
noncomputable def sg7 : Sig := ⟨[.one .bool], []⟩
noncomputable def fi7 : FnI := ⟨82, bodyOf Go.Proofs.Try.f7, [.tmp 4],
  [],
  [],
  [], []⟩
noncomputable def sg8 : Sig := ⟨[.one .bool], []⟩
noncomputable def fi8 : FnI := ⟨65, bodyOf Go.Proofs.Try.f8, [.tmp 4],
  [],
  [],
  [], []⟩
noncomputable def sg9 : Sig := ⟨[.one .bool], []⟩
noncomputable def fi9 : FnI := ⟨61, bodyOf Go.Proofs.Try.f9, [.tmp 4],
  [],
  [],
  [(8, [.keep [1], .keepR []])], []⟩
noncomputable def sg10 : Sig := ⟨[.one .bool], []⟩
noncomputable def fi10 : FnI := ⟨87, bodyOf Go.Proofs.Try.f10, [.tmp 4],
  [],
  [],
  [], []⟩
noncomputable def sg11 : Sig := ⟨[.one .bool], []⟩
noncomputable def fi11 : FnI := ⟨71, bodyOf Go.Proofs.Try.f11, [.tmp 4],
  [],
  [],
  [], []⟩
noncomputable def sg12 : Sig := ⟨[.one .bool], []⟩
noncomputable def fi12 : FnI := ⟨59, bodyOf Go.Proofs.Try.f12, [.tmp 6],
  [],
  [],
  [], []⟩
noncomputable def sg13 : Sig := ⟨[.one .bool], []⟩
noncomputable def fi13 : FnI := ⟨113, bodyOf Go.Proofs.Try.f13, [.tmp 4],
  [(2, [.froze 21 0])],
  [],
  [], []⟩
noncomputable def sg14 : Sig := ⟨[.one .bool], []⟩
noncomputable def fi14 : FnI := ⟨92, bodyOf Go.Proofs.Try.f14, [.tmp 2],
  [],
  [(0, [.keep [1, 6], .keepR [1]])],
  [(14, [.keep [1, 6, 7, 8, 9, 10, 11, 12], .keepR [1]]), (17, [.keep [1, 6, 7, 8, 9, 10, 11, 12], .keepR [1]]), (19, [.keep [1, 6, 7, 8, 9, 10, 11, 12], .keepR [1]])], []⟩
noncomputable def sg15 : Sig := ⟨[.one .bool], []⟩
noncomputable def fi15 : FnI := ⟨191, bodyOf Go.Proofs.Try.f15, [.tmp 4],
  [(5, [.froze 30 0]), (37, [.froze 7 0])],
  [(1, [.keep [5, 6, 7, 8], .cell 6 0 .node true, .cell 7 0 .node false, .keepR [6, 7]])],
  [(37, [.keep [5, 6, 7], .cell 6 0 .node true, .cell 7 0 .node false, .keepR [6, 7]])], []⟩
noncomputable def sg16 : Sig := ⟨[.one .bool], []⟩
noncomputable def fi16 : FnI := ⟨79, bodyOf Go.Proofs.Try.f16, [.tmp 4],
  [],
  [(0, [.keep [1, 5, 6, 7], .cell 6 0 .node false, .keepR [6]])],
  [(16, [.keep [5, 6, 8, 9, 10, 11], .cell 6 0 .node false, .keepR [6]])], []⟩
noncomputable def sg17 : Sig := ⟨[.one .bool], []⟩
noncomputable def fi17 : FnI := ⟨150, bodyOf Go.Proofs.Try.f17, [.tmp 2],
  [],
  [(0, [.keep [1, 3, 4, 5, 6, 7], .own 3 (.int .i64) false, .own 5 (.int .i64) false, .keepR [1, 3, 5]]), (2, [.keep [1, 3, 4, 5, 6, 7, 8, 10], .own 3 (.int .i64) false, .own 5 (.int .i64) false, .own 8 (.int .i64) false, .keepR [1, 3, 5, 8]]), (4, [.keep [3, 4, 5, 6, 11], .own 3 (.int .i64) false, .own 5 (.int .i64) false, .keepR [3, 5]])],
  [(18, [.keep [1, 3, 4, 5, 6, 7, 8], .own 3 (.int .i64) false, .own 5 (.int .i64) false, .own 8 (.int .i64) false, .keepR [1, 3, 5, 8]])], []⟩
noncomputable def sg18 : Sig := ⟨[.one .bool], []⟩
noncomputable def fi18 : FnI := ⟨64, bodyOf Go.Proofs.Try.f18, [.tmp 2],
  [(8, [.froze 25 0])],
  [],
  [], []⟩
noncomputable def sg19 : Sig := ⟨[.one .str, .one (.int .i64)], []⟩
noncomputable def fi19 : FnI := ⟨20, bodyOf Go.Proofs.Try.f19, [.tmp 4, .tmp 5],
  [],
  [],
  [], []⟩
noncomputable def sg20 : Sig := ⟨[.one .str, .one (.int .i64)], []⟩
noncomputable def fi20 : FnI := ⟨20, bodyOf Go.Proofs.Try.f20, [.tmp 4, .tmp 5],
  [],
  [],
  [], []⟩
noncomputable def sg21 : Sig := ⟨[.one (.int .i64), .one (.int .i64)], []⟩
noncomputable def fi21 : FnI := ⟨48, bodyOf Go.Proofs.Try.f21, [.tmp 6, .tmp 7],
  [],
  [],
  [], []⟩
noncomputable def sg22 : Sig := ⟨[.one (.int .i64), .one (.int .i64)], []⟩
noncomputable def fi22 : FnI := ⟨42, bodyOf Go.Proofs.Try.f22, [.tmp 6, .tmp 7],
  [],
  [],
  [], []⟩
noncomputable def sg23 : Sig := ⟨[.one .str, .one (.int .i64)], []⟩
noncomputable def fi23 : FnI := ⟨24, bodyOf Go.Proofs.Try.f23, [.tmp 2, .tmp 3],
  [],
  [(0, [.keep [0, 4], .own 4 (.int .u8) false, .keepR [4]])],
  [], []⟩
noncomputable def sg24 : Sig := ⟨[.one .str, .one (.int .i64)], []⟩
noncomputable def fi24 : FnI := ⟨26, bodyOf Go.Proofs.Try.f24, [.tmp 2, .tmp 3],
  [],
  [(0, [.keep [0, 4], .own 4 (.int .u8) false, .keepR [4]])],
  [], []⟩
noncomputable def sg25 : Sig := ⟨[.one (.int .i64), .one (.int .i64), .one (.int .i64)], []⟩
noncomputable def fi25 : FnI := ⟨70, bodyOf Go.Proofs.Try.f25, [.tmp 4, .tmp 5, .tmp 6],
  [],
  [(0, [.keep [0, 1, 7, 8], .keepR []])],
  [], []⟩
noncomputable def sg26 : Sig := ⟨[.one (.int .i64), .one (.int .i64), .one (.int .i64)], []⟩
noncomputable def fi26 : FnI := ⟨63, bodyOf Go.Proofs.Try.f26, [.tmp 4, .tmp 5, .tmp 6],
  [],
  [(0, [.keep [0, 1, 7, 8], .keepR []])],
  [], []⟩
noncomputable def sg27 : Sig := ⟨[.one (.int .i64)], []⟩
noncomputable def fi27 : FnI := ⟨4, bodyOf Go.Proofs.Try.f27, [.tmp 2],
  [],
  [],
  [], []⟩
noncomputable def sg28 : Sig := ⟨[.one .bool], []⟩
noncomputable def fi28 : FnI := ⟨120, bodyOf Go.Proofs.Try.f28, [.tmp 0],
  [],
  [],
  [], []⟩
noncomputable def sg29 : Sig := ⟨[.agg [(.own .node false)]], []⟩
noncomputable def fi29 : FnI := ⟨8, bodyOf Go.Proofs.Try.f29, [.cell 2 48],
  [],
  [],
  [], []⟩
noncomputable def sg30 : Sig := ⟨[.one .str, .one (.int .i64)], []⟩
noncomputable def fi30 : FnI := ⟨39, bodyOf Go.Proofs.Try.f30, [.tmp 2, .tmp 3],
  [],
  [(0, [.keep [4, 17, 18, 19], .own 4 (.int .u8) false, .keepR [4]])],
  [(10, [.keep [4, 6, 7, 17, 18, 19], .own 4 (.int .u8) false, .keepR [4, 6]])], []⟩
noncomputable def sg31 : Sig := ⟨[.one .str, .one (.int .i64)], []⟩
noncomputable def fi31 : FnI := ⟨43, bodyOf Go.Proofs.Try.f31, [.tmp 2, .tmp 3],
  [],
  [(0, [.keep [1, 4, 5], .own 4 (.int .u8) false, .keepR [1, 4]])],
  [(11, [.keep [1, 4, 5, 6, 7], .own 4 (.int .u8) false, .keepR [1, 4, 6]])], []⟩
noncomputable def sg32 : Sig := ⟨[.agg [(.own .node false)], .one (.int .i64)], []⟩
noncomputable def fi32 : FnI := ⟨56, bodyOf Go.Proofs.Try.f32, [.cell 2 48, .tmp 3],
  [],
  [(0, [.keep [0, 2, 4, 5], .cell 2 0 .node false, .cell 4 0 .node false, .keepR [2, 4]])],
  [], []⟩
noncomputable def sg33 : Sig := ⟨[.agg [(.own .node false)], .one (.int .i64)], []⟩
noncomputable def fi33 : FnI := ⟨62, bodyOf Go.Proofs.Try.f33, [.cell 2 48, .tmp 3],
  [],
  [(0, [.keep [0, 2, 4, 5], .cell 2 0 .node false, .cell 4 0 .node false, .keepR [2, 4]])],
  [], []⟩
noncomputable def sg34 : Sig := ⟨[.one .bool], []⟩
noncomputable def fi34 : FnI := ⟨10, bodyOf Go.Proofs.Try.f34, [.tmp 4],
  [],
  [],
  [], []⟩
noncomputable def sg35 : Sig := ⟨[], []⟩
noncomputable def fi35 : FnI := ⟨5, bodyOf Go.Proofs.Try.f35, [],
  [],
  [],
  [], []⟩
noncomputable def sg36 : Sig := ⟨[.one .bool], []⟩
noncomputable def fi36 : FnI := ⟨60, bodyOf Go.Proofs.Try.f36, [.tmp 0],
  [],
  [],
  [], []⟩
noncomputable def sg37 : Sig := ⟨[.one (.own (.int .i64) false), .one (.int .i64)], []⟩
noncomputable def fi37 : FnI := ⟨12, bodyOf Go.Proofs.Try.f37, [.tmp 4, .tmp 5],
  [],
  [],
  [], []⟩
noncomputable def sg38 : Sig := ⟨[.one (.own (.int .i64) false), .one (.int .i64)], []⟩
noncomputable def fi38 : FnI := ⟨13, bodyOf Go.Proofs.Try.f38, [.tmp 4, .tmp 5],
  [],
  [],
  [], []⟩
noncomputable def sg39 : Sig := ⟨[.one (.own (.int .i64) false), .one (.int .i64)], []⟩
noncomputable def fi39 : FnI := ⟨28, bodyOf Go.Proofs.Try.f39, [.tmp 2, .tmp 3],
  [],
  [(0, [.keep [4, 11, 12, 13], .own 4 (.int .i64) false, .keepR [4]])],
  [], []⟩
noncomputable def sg40 : Sig := ⟨[.one (.own (.int .i64) false), .one (.int .i64)], []⟩
noncomputable def fi40 : FnI := ⟨28, bodyOf Go.Proofs.Try.f40, [.tmp 2, .tmp 3],
  [],
  [(0, [.keep [1, 4, 5], .own 4 (.int .i64) false, .keepR [1, 4]])],
  [], []⟩
noncomputable def sg41 : Sig := ⟨[.one (.int .i64), .one (.int .i64), .one (.int .i64)], []⟩
noncomputable def fi41 : FnI := ⟨44, bodyOf Go.Proofs.Try.f41, [.tmp 4, .tmp 5, .tmp 6],
  [],
  [(0, [.keep [2, 7, 8, 16, 17, 18], .own 16 (.int .i64) false, .keepR [2, 16]])],
  [], []⟩
noncomputable def sg42 : Sig := ⟨[.one (.int .i64), .one (.int .i64), .one (.int .i64)], []⟩
noncomputable def fi42 : FnI := ⟨42, bodyOf Go.Proofs.Try.f42, [.tmp 4, .tmp 5, .tmp 6],
  [],
  [(0, [.keep [1, 2, 7, 8], .keepR [2]])],
  [(8, [.keep [1, 2, 7, 8], .keepR [2]])], []⟩
noncomputable def sg43 : Sig := ⟨[.one .bool], []⟩
noncomputable def fi43 : FnI := ⟨26, bodyOf Go.Proofs.Try.f43, [.tmp 4],
  [],
  [(0, [.keep [0, 1, 5], .keepR []])],
  [], []⟩
noncomputable def sg44 : Sig := ⟨[.one .bool], []⟩
noncomputable def fi44 : FnI := ⟨74, bodyOf Go.Proofs.Try.f44, [.tmp 2],
  [],
  [(0, [.keep [1, 19, 20, 21], .keepR [1]]), (2, [.keep [1, 41, 42, 43], .keepR [1]])],
  [], []⟩
noncomputable def sg45 : Sig := ⟨[.one .bool], []⟩
noncomputable def fi45 : FnI := ⟨99, bodyOf Go.Proofs.Try.f45, [.tmp 2],
  [],
  [(0, [.keep [1, 3, 4], .own 3 (.int .i64) false, .keepR [1, 3]])],
  [], []⟩
noncomputable def sg46 : Sig := ⟨[], []⟩
noncomputable def fi46 : FnI := ⟨17, bodyOf Go.Proofs.Try.f46, [],
  [],
  [(0, [.keep [0, 2], .own 0 (.int .i64) false, .keepR [0]])],
  [], []⟩
noncomputable def sg47 : Sig := ⟨[.one .bool], []⟩
noncomputable def fi47 : FnI := ⟨95, bodyOf Go.Proofs.Try.f47, [.tmp 0],
  [(2, [.froze 17 0])],
  [],
  [], []⟩
noncomputable def sg48 : Sig := ⟨[.one .bool], []⟩
noncomputable def fi48 : FnI := ⟨9, bodyOf Go.Proofs.Try.f48, [.tmp 2],
  [],
  [],
  [], []⟩
noncomputable def sg49 : Sig := ⟨[.one .str], []⟩
noncomputable def fi49 : FnI := ⟨25, bodyOf Go.Proofs.Try.f49, [.tmp 4],
  [],
  [(0, [.keep [0, 5, 10, 11], .own 5 (.int .u8) false, .keepR [5]])],
  [], []⟩
noncomputable def sg50 : Sig := ⟨[.one .bool], []⟩
noncomputable def fi50 : FnI := ⟨5, bodyOf Go.Proofs.Try.f50, [.tmp 2],
  [],
  [],
  [], []⟩
noncomputable def sg51 : Sig := ⟨[.one .str], []⟩
noncomputable def fi51 : FnI := ⟨24, bodyOf Go.Proofs.Try.f51, [.tmp 4],
  [],
  [(0, [.keep [0, 1, 5, 6], .own 5 (.int .u8) false, .keepR [5]])],
  [], []⟩
noncomputable def sg52 : Sig := ⟨[.one (.int .i64)], []⟩
noncomputable def fi52 : FnI := ⟨22, bodyOf Go.Proofs.Try.f52, [.tmp 2],
  [],
  [(0, [.keep [0, 3, 6, 7], .keepR []])],
  [], []⟩
noncomputable def sg53 : Sig := ⟨[.one (.int .i64)], []⟩
noncomputable def fi53 : FnI := ⟨21, bodyOf Go.Proofs.Try.f53, [.tmp 2],
  [],
  [(0, [.keep [0, 3, 4], .keepR []])],
  [], []⟩
noncomputable def sg54 : Sig := ⟨[.one .bool], []⟩
noncomputable def fi54 : FnI := ⟨26, bodyOf Go.Proofs.Try.f54, [.tmp 4],
  [],
  [(0, [.keep [0, 1, 5], .keepR []])],
  [], []⟩
noncomputable def sg55 : Sig := ⟨[], []⟩
noncomputable def fi55 : FnI := ⟨19, bodyOf Go.Proofs.Try.f55, [],
  [],
  [(0, [.keep [0, 2], .own 0 .node false, .keepR [0]])],
  [], []⟩
noncomputable def sg56 : Sig := ⟨[.one .bool], []⟩
noncomputable def fi56 : FnI := ⟨18, bodyOf Go.Proofs.Try.f56, [.tmp 4],
  [],
  [],
  [], []⟩
noncomputable def sg57 : Sig := ⟨[.one (.own (.int .i64) false)], []⟩
noncomputable def fi57 : FnI := ⟨32, bodyOf Go.Proofs.Try.f57, [.tmp 4],
  [],
  [(0, [.keep [1, 5, 11, 12, 13], .own 5 (.int .i64) false, .keepR [5]])],
  [], []⟩
noncomputable def sg58 : Sig := ⟨[.one .bool], []⟩
noncomputable def fi58 : FnI := ⟨18, bodyOf Go.Proofs.Try.f58, [.tmp 4],
  [],
  [],
  [], []⟩
noncomputable def sg59 : Sig := ⟨[.one (.own (.int .i64) false)], []⟩
noncomputable def fi59 : FnI := ⟨27, bodyOf Go.Proofs.Try.f59, [.tmp 4],
  [],
  [(0, [.keep [1, 2, 5, 6], .own 5 (.int .i64) false, .keepR [2, 5]])],
  [], []⟩
noncomputable def sg60 : Sig := ⟨[.one .bool], []⟩
noncomputable def fi60 : FnI := ⟨9, bodyOf Go.Proofs.Try.f60, [.tmp 2],
  [],
  [],
  [], []⟩
noncomputable def sg61 : Sig := ⟨[.one .bool], []⟩
noncomputable def fi61 : FnI := ⟨9, bodyOf Go.Proofs.Try.f61, [.tmp 2],
  [],
  [],
  [], []⟩
noncomputable def sg62 : Sig := ⟨[.one (.own (.int .i64) false)], []⟩
noncomputable def fi62 : FnI := ⟨21, bodyOf Go.Proofs.Try.f62, [.tmp 4],
  [],
  [(0, [.keep [0, 1, 5], .own 5 (.int .i64) false, .keepR [5]])],
  [], []⟩
noncomputable def sg63 : Sig := ⟨[.one .bool], []⟩
noncomputable def fi63 : FnI := ⟨36, bodyOf Go.Proofs.Try.f63, [.tmp 4],
  [],
  [],
  [], []⟩
noncomputable def sg64 : Sig := ⟨[.one .bool], []⟩
noncomputable def fi64 : FnI := ⟨15, bodyOf Go.Proofs.Try.f64, [.tmp 6],
  [],
  [],
  [], []⟩
noncomputable def tyL : List (Nat × TyI) := [
  (3, ⟨false, 1, 8, [(.int .i64 0)], some .i64, false, none, 0, [], 0, [], false, false⟩),
  (4, ⟨false, 1, 1, [(.bool false)], none, false, none, 0, [], 0, [], false, true⟩),
  (5, ⟨false, 1, 1, [(.int .u8 0)], some .u8, false, none, 0, [], 0, [], false, false⟩),
  (9, ⟨false, 1, 16, [(.str [])], none, true, none, 0, [], 0, [], false, false⟩),
  (41, ⟨false, 1, 24, [.nils], none, false, some (.int .i64), 3, [(.int .i64 0)], 8, [], false, false⟩),
  (42, ⟨false, 1, 24, [.nils], none, false, some .str, 9, [(.str [])], 16, [], false, false⟩),
  (43, ⟨false, 1, 8, [(.int .u64 0)], some .u64, false, none, 0, [], 0, [], false, false⟩),
  (46, ⟨false, 1, 24, [.nils], none, false, some .node, 60, [(.int .i64 0), (.int .i64 0), (.bool false)], 24, [], false, false⟩),
  (48, ⟨true, 1, 24, [.nils], none, false, none, 0, [], 0, [(0, 1, 46)], false, false⟩),
  (60, ⟨true, 3, 24, [(.int .i64 0), (.int .i64 0), (.bool false)], none, false, none, 0, [], 0, [(0, 1, 3), (1, 1, 3), (2, 1, 4)], true, false⟩),
  (78, ⟨false, 1, 24, [.nils], none, false, some (.int .u8), 5, [(.int .u8 0)], 1, [], false, false⟩),
  (86, ⟨false, 1, 8, [(.int .u64 0)], some .u64, false, none, 0, [], 0, [], false, false⟩)]
noncomputable def pkL : List (Nat × List PK) := [
  (3, [.one (.int .i64), .one (.int .i64), .one .str, .one (.int .i64)]),
  (4, [.one (.int .i64), .one .str]),
  (5, [.one (.int .i64), .one (.int .i64)]),
  (6, [.one (.list (.int .i64))]),
  (7, [.one (.int .i64), .one (.int .i64)]),
  (8, [.agg [(.list .node)], .one .str]),
  (9, [.agg [(.list .node)], .one .str]),
  (10, [.one (.int .i64), .one (.int .i64)]),
  (11, [.agg [(.list .node)], .one (.int .i64)]),
  (12, [.agg [(.list .node)], .one (.int .i64), .one .str]),
  (13, [.agg [(.list .node)], .one (.int .i64)]),
  (14, [.agg [(.list .node)]]),
  (15, [.one (.int .i64), .one (.int .i64)]),
  (16, [.one (.int .i64), .one .bool]),
  (17, [.agg [(.list .node)]]),
  (18, [.agg [(.list .node)]]),
  (19, [.one (.int .i64), .one (.int .i64)]),
  (20, [.one (.int .i64), .one (.int .i64)]),
  (21, [.one .str, .one (.int .i64), .one (.int .i64)]),
  (22, [.one .str, .one (.int .i64), .one (.int .i64)]),
  (23, [.one (.int .i64)]),
  (24, [.one (.int .i64)]),
  (25, [.one .str, .one (.int .i64)]),
  (26, [.one .str, .one (.int .i64)]),
  (27, [.one (.int .i64)]),
  (28, []),
  (29, [.agg [(.list .node)]]),
  (30, [.agg [(.list .node)]]),
  (31, [.agg [(.list .node)]]),
  (32, [.one .str]),
  (33, [.one .str]),
  (34, [.agg [(.list .node)], .agg [(.list .node)]]),
  (35, [.agg [(.own .node false)]]),
  (36, []),
  (37, [.agg [(.list .node)], .one (.int .i64)]),
  (38, [.agg [(.list .node)], .one (.int .i64)]),
  (39, [.agg [(.list .node)]]),
  (40, [.agg [(.list .node)]]),
  (41, [.agg [(.list .node)], .one (.int .i64)]),
  (42, [.agg [(.list .node)], .one (.int .i64)]),
  (43, [.one (.list (.int .i64)), .one (.list (.int .i64))]),
  (44, [.agg [(.list .node)]]),
  (45, [.agg [(.list .node)]]),
  (46, [.one (.own (.int .i64) false)]),
  (47, []),
  (48, [.one (.int .i64)]),
  (49, [.one (.int .i64), .one (.int .i64)]),
  (50, [.one (.int .i64)]),
  (51, [.one (.int .i64), .one (.int .i64)]),
  (52, [.one .str]),
  (53, [.one .str]),
  (54, [.one (.list .node), .one (.list .node)]),
  (55, [.one (.own .node false)]),
  (56, [.agg [(.list .node)], .one (.int .i64)]),
  (57, [.ro [(.list .node)], .one (.int .i64)]),
  (58, [.agg [(.list .node)], .one (.int .i64)]),
  (59, [.agg [(.list .node)], .one (.int .i64)]),
  (60, [.one (.int .i64)]),
  (61, [.one (.int .i64)]),
  (62, [.ro [(.list .node)], .one (.int .i64)]),
  (63, [.ro [(.list .node)], .one (.int .i64)]),
  (64, [.one (.int .i64), .one (.int .i64), .one (.int .i64)])]
noncomputable def sgL : List (Nat × Sig) := [(3, sg3), (4, sg4), (5, sg5), (6, sg6), (7, sg7), (8, sg8), (9, sg9), (10, sg10), (11, sg11), (12, sg12), (13, sg13), (14, sg14), (15, sg15), (16, sg16), (17, sg17), (18, sg18), (19, sg19), (20, sg20), (21, sg21), (22, sg22), (23, sg23), (24, sg24), (25, sg25), (26, sg26), (27, sg27), (28, sg28), (29, sg29), (30, sg30), (31, sg31), (32, sg32), (33, sg33), (34, sg34), (35, sg35), (36, sg36), (37, sg37), (38, sg38), (39, sg39), (40, sg40), (41, sg41), (42, sg42), (43, sg43), (44, sg44), (45, sg45), (46, sg46), (47, sg47), (48, sg48), (49, sg49), (50, sg50), (51, sg51), (52, sg52), (53, sg53), (54, sg54), (55, sg55), (56, sg56), (57, sg57), (58, sg58), (59, sg59), (60, sg60), (61, sg61), (62, sg62), (63, sg63), (64, sg64)]
noncomputable def fnL : List (Nat × FnI) := [(3, fi3), (4, fi4), (5, fi5), (6, fi6), (7, fi7), (8, fi8), (9, fi9), (10, fi10), (11, fi11), (12, fi12), (13, fi13), (14, fi14), (15, fi15), (16, fi16), (17, fi17), (18, fi18), (19, fi19), (20, fi20), (21, fi21), (22, fi22), (23, fi23), (24, fi24), (25, fi25), (26, fi26), (27, fi27), (28, fi28), (29, fi29), (30, fi30), (31, fi31), (32, fi32), (33, fi33), (34, fi34), (35, fi35), (36, fi36), (37, fi37), (38, fi38), (39, fi39), (40, fi40), (41, fi41), (42, fi42), (43, fi43), (44, fi44), (45, fi45), (46, fi46), (47, fi47), (48, fi48), (49, fi49), (50, fi50), (51, fi51), (52, fi52), (53, fi53), (54, fi54), (55, fi55), (56, fi56), (57, fi57), (58, fi58), (59, fi59), (60, fi60), (61, fi61), (62, fi62), (63, fi63), (64, fi64)]
noncomputable def pksOf (f : FuncId) : List PK := match look f pkL with | some l => l | none => []
noncomputable def sigOf (f : FuncId) : Sig := match look f sgL with | some s => s | none => ⟨[], []⟩
noncomputable def extOf (f : FuncId) (args : List Arg) : Option (sigOf f).den := none
noncomputable def E (bar : Bar) : Env := ⟨fun f => look f fnL, fun t => look t tyL, pksOf, sigOf, extOf, bar⟩

end Go.Proofs.YtgedegmcbkligaaA
