/- The functions, types, parameters and results of the program, as the machine is told of them: definitions alone. -/
import Derived.Test.YtjkokaockhecnaaGreatDoorProg
import Derived.Test.YtjkokaockhecnaaGreatDoorExt
namespace Go.Proofs.YtjkokaockhecnaaGreatDoorA
open Go
set_option linter.unusedVariables false
noncomputable def ay (f:Func):Code:=match f.body with|some c=>c|none=>.skip
noncomputable def J8:bQ:=⟨[.one .bool],[]⟩
noncomputable def Jc:ct:=⟨184,ay Go.Proofs.Tryz.f12,[.tmp 4],
 [(17,[.froze 36 0])],
 [],
 [],[97,99,101,105,108,111,141],false⟩
noncomputable def Ie:bQ:=⟨[.el .arr,.one (.int .i64)],[]⟩
noncomputable def Hf:ct:=⟨42,ay Go.Proofs.Tryz.f17,[.cell 6 27,.tmp 7],
 [],
 [(0,[.keep [1,2,3,6,8],.cell 6 6 .arr false,.keepR [3,6]])],
 [],[],false⟩
noncomputable def JZ:bQ:=⟨[.one (.int .i64)],[]⟩
noncomputable def IS:ct:=⟨4,ay Go.Proofs.Tryz.f20,[.tmp 2],
 [],
 [],
 [],[],false⟩
noncomputable def HG:bQ:=⟨[.one .str,.one (.int .i64)],[]⟩
noncomputable def ED:ct:=⟨75,ay Go.Proofs.Tryz.f22,[.tmp 6,.tmp 7],
 [],
 [(0,[.keep [5,11,12,13,45,46,47],.bself 13,.own 45 (.int .i64) false,.cell 13 1 (.int .u8) false,.keepR [5,13,2045]]),(2,[.keep [13,60,61,62],.bself 13,.cell 13 1 (.int .u8) false,.keepR [13]])],
 [],[],false⟩
noncomputable def IJ:bQ:=⟨[.one .str,.one (.int .i64)],[]⟩
noncomputable def Hk:ct:=⟨81,ay Go.Proofs.Tryz.f23,[.tmp 6,.tmp 7],
 [],
 [(0,[.keep [5,15,16],.keepR [5]])],
 [],[],false⟩
noncomputable def I1:bQ:=⟨[.agg [(.own (.int .i64) false),(.own (.int .i64) false),(.own .str false)],.one (.int .i64)],[]⟩
noncomputable def GT:ct:=⟨134,ay Go.Proofs.Tryz.f24,[.cell 6 42,.tmp 7],
 [],
 [(0,[.keep [1,2,3,6,11,15,16,17,82,83],.cell 15 0 (.int .i64) false,.cell 15 1 (.int .i64) false,.cell 15 2 .str false,.cell 6 0 (.int .i64) false,.cell 6 1 (.int .i64) false,.cell 6 2 .str false,.keepR [3,6,15,48]])],
 [],[],false⟩
noncomputable def JV:bQ:=⟨[.one .bool],[]⟩
noncomputable def Jv:ct:=⟨24,ay Go.Proofs.Tryz.f26,[.tmp 4],
 [],
 [],
 [],[],false⟩
noncomputable def GP:bQ:=⟨[.one (.int .i64)],[]⟩
noncomputable def DN:ct:=⟨33,ay Go.Proofs.Tryz.f30,[.tmp 2],
 [],
 [(0,[.keep [0,3,4],.keepR []]),(2,[.keep [0,3,4,5],.keepR []])],
 [],[],false⟩
noncomputable def JB:bQ:=⟨[.one .str],[]⟩
noncomputable def I7:ct:=⟨24,ay Go.Proofs.Tryz.f31,[.tmp 4],
 [],
 [(0,[.keep [0,1,5,6],.own 5 (.int .u8) false,.keepR [2005]])],
 [],[],false⟩
noncomputable def Hq:bQ:=⟨[.one .bool],[]⟩
noncomputable def Dw:ct:=⟨116,ay Go.Proofs.Tryz.f32,[.tmp 6],
 [],
 [(0,[.keep [1,3,5,7,8,10,11],.keepR [3,5]]),(2,[.keep [1,3,5,10,12],.keepR [3,5]])],
 [],[],false⟩
noncomputable def HV:bQ:=⟨[.one (.own .str false),.one (.int .i64)],[]⟩
noncomputable def G7:ct:=⟨94,ay Go.Proofs.Tryz.f34,[.tmp 8,.tmp 9],
 [],
 [(0,[.keep [1,3,4,6,11,13],.own 13 .str false,.keepR [4,6,2013]])],
 [],[],false⟩
noncomputable def IR:bQ:=⟨[.agg [(.own (.int .i64) false),(.own (.int .i64) false),(.own .str false)],.one (.int .i64)],[]⟩
noncomputable def Hh:ct:=⟨78,ay Go.Proofs.Tryz.f36,[.cell 6 42,.tmp 7],
 [],
 [(0,[.keep [1,3,6,8,9,17,18,19],.cell 6 0 (.int .i64) false,.cell 6 1 (.int .i64) false,.cell 6 2 .str false,.cell 8 0 (.int .i64) false,.cell 8 1 (.int .i64) false,.cell 8 2 .str false,.keepR [3,6,8]])],
 [],[],false⟩
noncomputable def IM:bQ:=⟨[.one .bool],[]⟩
noncomputable def HA:ct:=⟨26,ay Go.Proofs.Tryz.f38,[.tmp 4],
 [],
 [(0,[.keep [0,1,5],.keepR []])],
 [],[],false⟩
noncomputable def J3:bQ:=⟨[.one .bool],[]⟩
noncomputable def Jp:ct:=⟨83,ay Go.Proofs.Tryz.f41,[.tmp 0],
 [(3,[.froze 19 0])],
 [],
 [],[23,35,36,41],false⟩
noncomputable def Jm:bQ:=⟨[.one .str],[]⟩
noncomputable def Hw:ct:=⟨22,ay Go.Proofs.Tryz.f46,[.tmp 2],
 [],
 [(0,[.keep [0,3],.keepR []])],
 [],[],false⟩
noncomputable def J2:bQ:=⟨[.one .bool],[]⟩
noncomputable def IL:ct:=⟨18,ay Go.Proofs.Tryz.f47,[.tmp 4],
 [],
 [],
 [],[],false⟩
noncomputable def Jf:bQ:=⟨[.one .bool],[]⟩
noncomputable def GZ:ct:=⟨105,ay Go.Proofs.Tryz.f48,[.tmp 6],
 [],
 [(0,[.keep [3,8,9,11,13],.own 9 .str false,.own 11 (.int .i64) false,.keepR [3,2009,2011]])],
 [],[],false⟩
noncomputable def BR:bQ:=⟨[.el .arr,.one .bool],[]⟩
noncomputable def zu:ct:=⟨222,ay Go.Proofs.Tryz.f49,[.cell 6 27,.tmp 7],
 [],
 [(0,[.keep [1,2,3,6,8,9,11,12,13],.own 9 (.int .i64) false,.own 12 .bool false,.cell 6 6 .arr false,.cell 8 6 .arr false,.keepR [3,6,8,40,2009,2012]]),(3,[.keep [1,2,3,6,8,9,11,12,13,14,15,18],.own 9 (.int .i64) false,.own 12 .bool false,.own 15 .str false,.cell 6 6 .arr false,.cell 8 6 .arr false,.keepR [3,6,8,40,2009,2012,2015]]),(6,[.keep [3,6,8,9,11,20],.own 9 (.int .i64) false,.cell 6 6 .arr false,.cell 8 6 .arr false,.keepR [3,6,8,40,2009]])],
 [(39,[.keep [3,6,8,9,11],.own 9 (.int .i64) false,.cell 6 6 .arr false,.cell 8 6 .arr false,.keepR [3,6,8,40,2009]])],[],false⟩
noncomputable def I6:bQ:=⟨[.one .bool],[]⟩
noncomputable def Hn:ct:=⟨78,ay Go.Proofs.Tryz.f52,[.tmp 6],
 [],
 [(0,[.keep [1,3,5,8,53,54,55],.keepR [3,5]])],
 [],[],false⟩
noncomputable def Iz:bQ:=⟨[.one (.int .i64),.one (.int .i64),.one (.int .i64)],[]⟩
noncomputable def GO:ct:=⟨44,ay Go.Proofs.Tryz.f53,[.tmp 4,.tmp 5,.tmp 6],
 [],
 [(0,[.keep [2,7,8,16,17,18],.own 16 (.int .i64) false,.keepR [2,2016]])],
 [],[],false⟩
noncomputable def J6:bQ:=⟨[.one .str],[]⟩
noncomputable def Ja:ct:=⟨16,ay Go.Proofs.Tryz.f54,[.tmp 4],
 [],
 [],
 [],[],false⟩
noncomputable def JQ:bQ:=⟨[.one .str],[]⟩
noncomputable def Ii:ct:=⟨25,ay Go.Proofs.Tryz.f56,[.tmp 4],
 [],
 [(0,[.keep [0,5,10,11],.own 5 (.int .u8) false,.keepR [2005]])],
 [],[],false⟩
noncomputable def JI:bQ:=⟨[.one .str],[]⟩
noncomputable def H8:ct:=⟨45,ay Go.Proofs.Tryz.f57,[.tmp 2],
 [],
 [],
 [],[],false⟩
noncomputable def G3:bQ:=⟨[.one (.int .i64)],[]⟩
noncomputable def E3:ct:=⟨31,ay Go.Proofs.Tryz.f58,[.tmp 2],
 [],
 [(0,[.keep [0,3,7,8],.keepR []]),(2,[.keep [0,3,7,8,17],.keepR []])],
 [],[],false⟩
noncomputable def G6:bQ:=⟨[.one (.int .i64),.one (.int .i64),.one (.int .i64)],[]⟩
noncomputable def D1:ct:=⟨42,ay Go.Proofs.Tryz.f60,[.tmp 4,.tmp 5,.tmp 6],
 [],
 [(0,[.keep [1,2,7,8],.keepR [2]])],
 [(8,[.keep [1,2,7,8],.keepR [2]])],[],false⟩
noncomputable def Dq:bQ:=⟨[.one .str,.one (.int .i64)],[]⟩
noncomputable def CN:ct:=⟨118,ay Go.Proofs.Tryz.f61,[.tmp 4,.tmp 5],
 [],
 [(0,[.keep [0,1,6],.keepR []]),(2,[.keep [0,1,7,8],.keepR []]),(4,[.keep [0,1,7,8,12],.keepR []])],
 [],[],false⟩
noncomputable def JP:bQ:=⟨[.one (.int .i64)],[]⟩
noncomputable def Is:ct:=⟨11,ay Go.Proofs.Tryz.f62,[.tmp 2],
 [],
 [(0,[.keep [0,3],.keepR []])],
 [],[],false⟩
noncomputable def J5:bQ:=⟨[.one .str],[]⟩
noncomputable def H6:ct:=⟨32,ay Go.Proofs.Tryz.f63,[.tmp 2],
 [],
 [],
 [],[],false⟩
noncomputable def JW:bQ:=⟨[.one .bool],[]⟩
noncomputable def Jt:ct:=⟨18,ay Go.Proofs.Tryz.f64,[.tmp 4],
 [],
 [],
 [],[],false⟩
noncomputable def II:bQ:=⟨[.one (.int .i64)],[]⟩
noncomputable def Ht:ct:=⟨22,ay Go.Proofs.Tryz.f65,[.tmp 2],
 [],
 [(0,[.keep [0,3,6,7],.keepR []])],
 [],[],false⟩
noncomputable def JS:bQ:=⟨[.one (.int .i64)],[(0,[.str,.bool])]⟩
noncomputable def IG:ct:=⟨27,ay Go.Proofs.Tryz.f66,[.tmp 2],
 [],
 [],
 [],[],false⟩
noncomputable def Hi:bQ:=⟨[.one (.own (.int .i64) false),.one (.int .i64)],[]⟩
noncomputable def E7:ct:=⟨136,ay Go.Proofs.Tryz.f67,[.tmp 6,.tmp 7],
 [],
 [(0,[.keep [0,1,2,8],.cell 32 2 (.int .i64) false,.keepR [32]])],
 [(12,[.keep [0,1,2,8,9],.cell 32 2 (.int .i64) false,.keepR [32]])],[],false⟩
noncomputable def JK:bQ:=⟨[.one .str],[(0,[.str,.bool])]⟩
noncomputable def H2:ct:=⟨42,ay Go.Proofs.Tryz.f68,[.tmp 4],
 [],
 [],
 [],[],false⟩
noncomputable def JH:bQ:=⟨[.one (.int .i64)],[]⟩
noncomputable def Jg:ct:=⟨8,ay Go.Proofs.Tryz.f69,[.tmp 2],
 [],
 [],
 [],[],false⟩
noncomputable def IX:bQ:=⟨[.one (.int .i64)],[]⟩
noncomputable def GX:ct:=⟨21,ay Go.Proofs.Tryz.f70,[.tmp 4],
 [],
 [(0,[.keep [1,5,8,9,10],.keepR []])],
 [],[],false⟩
noncomputable def JR:bQ:=⟨[.one .str],[(0,[.str,.bool])]⟩
noncomputable def IZ:ct:=⟨22,ay Go.Proofs.Tryz.f71,[.tmp 4],
 [],
 [],
 [],[],false⟩
noncomputable def JO:bQ:=⟨[.one .bool],[]⟩
noncomputable def Js:ct:=⟨17,ay Go.Proofs.Tryz.f72,[.tmp 4],
 [],
 [],
 [],[],false⟩
noncomputable def Jx:bQ:=⟨[.one .bool],[]⟩
noncomputable def Hy:ct:=⟨26,ay Go.Proofs.Tryz.f76,[.tmp 4],
 [],
 [(0,[.keep [0,1,5],.keepR []])],
 [],[],false⟩
noncomputable def Ih:bQ:=⟨[.one .bool],[]⟩
noncomputable def GU:ct:=⟨99,ay Go.Proofs.Tryz.f78,[.tmp 2],
 [],
 [(0,[.keep [1,3,4],.own 3 (.int .i64) false,.keepR [1,2003]])],
 [],[],false⟩
noncomputable def Ho:bQ:=⟨[.one (.int .i64),.one (.int .i64)],[]⟩
noncomputable def Ee:ct:=⟨49,ay Go.Proofs.Tryz.f80,[.tmp 6,.tmp 7],
 [],
 [(0,[.keep [0,1,2,8,9,15,16,17],.keepR []])],
 [(9,[.keep [0,1,2,8,9,10,15,16,17],.keepR []])],[],false⟩
noncomputable def J7:bQ:=⟨[.agg [(.own .node false)]],[]⟩
noncomputable def Iy:ct:=⟨4,ay Go.Proofs.Tryz.f81,[.cell 0 32],
 [],
 [],
 [],[],false⟩
noncomputable def GM:bQ:=⟨[.one .str],[]⟩
noncomputable def Fg:ct:=⟨37,ay Go.Proofs.Tryz.f86,[.tmp 2],
 [],
 [(0,[.keep [0,3,4],.own 4 (.int .u8) false,.keepR [2004]])],
 [(4,[.keep [0,3],.keepR []])],[],false⟩
noncomputable def HD:bQ:=⟨[.one (.int .i64),.one (.own .str false),.one (.int .i64)],[]⟩
noncomputable def DI:ct:=⟨64,ay Go.Proofs.Tryz.f87,[.tmp 2,.tmp 3,.tmp 4],
 [],
 [(1,[.keep [0,5,6],.own 5 .str false,.keepR [2005]])],
 [(13,[.keep [0],.keepR []])],[],false⟩
noncomputable def JE:bQ:=⟨[.one (.own (.int .i64) false),.one (.int .i64)],[]⟩
noncomputable def Ip:ct:=⟨13,ay Go.Proofs.Tryz.f88,[.tmp 4,.tmp 5],
 [],
 [],
 [],[],false⟩
noncomputable def JL:bQ:=⟨[.one .bool],[]⟩
noncomputable def Ju:ct:=⟨9,ay Go.Proofs.Tryz.f89,[.tmp 2],
 [],
 [],
 [],[],false⟩
noncomputable def IQ:bQ:=⟨[.one .str],[]⟩
noncomputable def He:ct:=⟨31,ay Go.Proofs.Tryz.f90,[.tmp 2],
 [],
 [(0,[.keep [0,3,4,5],.own 3 .bool false,.keepR [2003]])],
 [],[],false⟩
noncomputable def Iq:bQ:=⟨[.one (.int .i64),.one .bool],[]⟩
noncomputable def GI:ct:=⟨59,ay Go.Proofs.Tryz.f91,[.tmp 2,.tmp 3],
 [],
 [(0,[.keep [0,4,5],.keepR []])],
 [],[],false⟩
noncomputable def JG:bQ:=⟨[.one .str],[]⟩
noncomputable def H4:ct:=⟨18,ay Go.Proofs.Tryz.f92,[.tmp 2],
 [],
 [(0,[.keep [0,3,4],.keepR []])],
 [],[],false⟩
noncomputable def JA:bQ:=⟨[.one .str],[]⟩
noncomputable def If:ct:=⟨52,ay Go.Proofs.Tryz.f93,[.tmp 4],
 [],
 [(1,[.keep [2,5,7,8],.own 5 (.int .i64) false,.own 7 .str false,.keepR [2,2005,2007]])],
 [],[],false⟩
noncomputable def Jb:bQ:=⟨[.one .str],[]⟩
noncomputable def GQ:ct:=⟨34,ay Go.Proofs.Tryz.f94,[.tmp 2],
 [],
 [(0,[.keep [0,3,4],.own 3 (.int .u8) false,.keepR [2003]])],
 [],[],false⟩
noncomputable def Jo:bQ:=⟨[.one .bool],[]⟩
noncomputable def GV:ct:=⟨21,ay Go.Proofs.Tryz.f97,[.tmp 4],
 [],
 [(0,[.keep [1,7,8,9],.keepR []])],
 [],[],false⟩
noncomputable def JC:bQ:=⟨[.one .str],[]⟩
noncomputable def I5:ct:=⟨1,ay Go.Proofs.Tryz.f98,[.tmp 0],
 [],
 [],
 [],[],false⟩
noncomputable def IT:bQ:=⟨[.one .bool],[]⟩
noncomputable def GR:ct:=⟨91,ay Go.Proofs.Tryz.f99,[.tmp 6],
 [],
 [(1,[.keep [7,8,11,13,70,71,72],.view 8 .str,.own 11 (.int .i64) false,.view 70 .str,.keepR [3,2011]])],
 [],[],false⟩
noncomputable def I2:bQ:=⟨[.one .bool],[]⟩
noncomputable def Gg:ct:=⟨18,ay Go.Proofs.Tryz.f100,[.tmp 4],
 [],
 [],
 [],[],false⟩
noncomputable def FY:bQ:=⟨[.one (.own (.int .i64) false)],[]⟩
noncomputable def CO:ct:=⟨21,ay Go.Proofs.Tryz.f101,[.tmp 4],
 [],
 [(0,[.keep [0,1,5],.own 5 (.int .i64) false,.keepR [2005]])],
 [],[],false⟩
noncomputable def Gx:bQ:=⟨[.one .str,.one (.int .i64)],[]⟩
noncomputable def Ax:ct:=⟨62,ay Go.Proofs.Tryz.f102,[.tmp 4,.tmp 5],
 [],
 [(0,[.keep [0,1,6],.bself 6,.cell 6 1 (.int .u8) false,.keepR [6]])],
 [],[],false⟩
noncomputable def IA:bQ:=⟨[.one (.int .i64),.one (.own .str false),.one (.int .i64)],[]⟩
noncomputable def Fv:ct:=⟨32,ay Go.Proofs.Tryz.f104,[.tmp 2,.tmp 3,.tmp 4],
 [],
 [],
 [],[],false⟩
noncomputable def Ic:bQ:=⟨[.one (.int .i64),.one .err],[]⟩
noncomputable def FP:bQ:=⟨[.one (.int .i64)],[]⟩
noncomputable def Bi:ct:=⟨28,ay Go.Proofs.Tryz.f106,[.tmp 4],
 [],
 [(0,[.keep [0,1,5],.keepR []])],
 [],[],false⟩
noncomputable def FZ:bQ:=⟨[.one .str,.one (.int .i64)],[]⟩
noncomputable def Ba:ct:=⟨26,ay Go.Proofs.Tryz.f107,[.tmp 2,.tmp 3],
 [],
 [(0,[.keep [0,4],.own 4 (.int .u8) false,.keepR [2004]])],
 [],[],false⟩
noncomputable def IF:bQ:=⟨[.one (.int .i64)],[]⟩
noncomputable def FB:ct:=⟨6,ay Go.Proofs.Tryz.f108,[.tmp 2],
 [],
 [],
 [],[],false⟩
noncomputable def A5:bQ:=⟨[.one .str],[]⟩
noncomputable def yX:ct:=⟨41,ay Go.Proofs.Tryz.f109,[.tmp 4],
 [],
 [(0,[.keep [0,1,5,6],.own 5 .bool false,.keepR [2005]]),(2,[.keep [0,1,5,6,7],.own 5 .bool false,.keepR [2005]])],
 [],[],false⟩
noncomputable def Jl:bQ:=⟨[.one .str],[]⟩
noncomputable def Gk:ct:=⟨16,ay Go.Proofs.Tryz.f110,[.tmp 2],
 [],
 [],
 [],[7,10],false⟩
noncomputable def Jr:bQ:=⟨[.one .bool],[]⟩
noncomputable def Gn:ct:=⟨9,ay Go.Proofs.Tryz.f111,[.tmp 2],
 [],
 [],
 [],[],false⟩
noncomputable def Iw:bQ:=⟨[.one (.int .i64),.one (.int .i64)],[]⟩
noncomputable def FD:ct:=⟨48,ay Go.Proofs.Tryz.f112,[.tmp 6,.tmp 7],
 [],
 [],
 [],[],false⟩
noncomputable def FR:bQ:=⟨[.one (.int .i64),.one (.int .i64),.one (.int .i64)],[]⟩
noncomputable def Bj:ct:=⟨70,ay Go.Proofs.Tryz.f113,[.tmp 4,.tmp 5,.tmp 6],
 [],
 [(0,[.keep [0,1,7,8],.keepR []])],
 [],[],false⟩
noncomputable def I3:bQ:=⟨[],[(0,[.str,(.int .i64),(.own (.int .i64) false),.bool])]⟩
noncomputable def F6:ct:=⟨44,ay Go.Proofs.Tryz.f114,[],
 [(1000000,[.cell 1000 2 (.int .i64) false])],
 [],
 [],[],false⟩
noncomputable def BH:bQ:=⟨[],[(0,[.str,(.int .i64),(.own (.int .i64) false),.bool])]⟩
noncomputable def yV:ct:=⟨74,ay Go.Proofs.Tryz.f115,[],
 [],
 [(0,[.keep [0,6,30,31],.cell 1000 2 (.int .i64) false,.keepR [1000]]),(2,[.keep [0,6,7,8,30,31,37,38],.cell 1000 2 (.int .i64) false,.keepR [1000]])],
 [],[],false⟩
noncomputable def Jq:bQ:=⟨[.one (.int .i64)],[]⟩
noncomputable def FM:ct:=⟨25,ay Go.Proofs.Tryz.f117,[.tmp 2],
 [],
 [],
 [(4,[.keep [0,2],.keepR []]),(7,[.keep [0,2],.keepR []])],[],false⟩
noncomputable def Im:bQ:=⟨[.one .str],[]⟩
noncomputable def Ft:ct:=⟨7,ay Go.Proofs.Tryz.f118,[.tmp 2],
 [],
 [],
 [],[],false⟩
noncomputable def Jy:bQ:=⟨[.one .str],[]⟩
noncomputable def FO:ct:=⟨4,ay Go.Proofs.Tryz.f119,[.tmp 2],
 [],
 [],
 [],[],false⟩
noncomputable def Ij:bQ:=⟨[.one .str],[]⟩
noncomputable def F2:ct:=⟨10,ay Go.Proofs.Tryz.f120,[.tmp 2],
 [],
 [],
 [],[],false⟩
noncomputable def Jk:bQ:=⟨[.one .str],[(0,[.str,.bool])]⟩
noncomputable def GE:ct:=⟨7,ay Go.Proofs.Tryz.f121,[.tmp 2],
 [],
 [],
 [],[],false⟩
noncomputable def Ji:bQ:=⟨[.one .bool],[]⟩
noncomputable def F4:ct:=⟨5,ay Go.Proofs.Tryz.f123,[.tmp 2],
 [],
 [],
 [],[],false⟩
noncomputable def It:bQ:=⟨[.one .bool],[]⟩
noncomputable def FN:ct:=⟨15,ay Go.Proofs.Tryz.f128,[.tmp 6],
 [],
 [],
 [],[],false⟩
noncomputable def FC:bQ:=⟨[.one (.own (.int .i64) false)],[]⟩
noncomputable def A4:ct:=⟨27,ay Go.Proofs.Tryz.f129,[.tmp 4],
 [],
 [(0,[.keep [1,2,5,6],.own 5 (.int .i64) false,.keepR [2,2005]])],
 [],[],false⟩
noncomputable def FI:bQ:=⟨[.one (.int .i64)],[]⟩
noncomputable def CP:ct:=⟨126,ay Go.Proofs.Tryz.f133,[.tmp 6],
 [],
 [(1,[.keep [0,1,2,13],.keepR []])],
 [],[],false⟩
noncomputable def GG:bQ:=⟨[.one (.int .i64)],[]⟩
noncomputable def B7:ct:=⟨27,ay Go.Proofs.Tryz.f134,[.tmp 6],
 [],
 [(0,[.keep [0,1,2,7],.keepR []])],
 [],[],false⟩
noncomputable def Ib:bQ:=⟨[.one .str],[]⟩
noncomputable def Gw:ct:=⟨7,ay Go.Proofs.Tryz.f135,[.tmp 2],
 [],
 [],
 [],[],false⟩
noncomputable def IK:bQ:=⟨[.one (.own (.int .i64) false),.one (.int .i64)],[]⟩
noncomputable def Fq:ct:=⟨12,ay Go.Proofs.Tryz.f141,[.tmp 4,.tmp 5],
 [],
 [],
 [],[],false⟩
noncomputable def Io:bQ:=⟨[.one .bool],[]⟩
noncomputable def FK:ct:=⟨10,ay Go.Proofs.Tryz.f142,[.tmp 5],
 [],
 [],
 [],[],false⟩
noncomputable def IE:bQ:=⟨[.one .bool],[]⟩
noncomputable def FQ:ct:=⟨33,ay Go.Proofs.Tryz.f143,[.tmp 6],
 [],
 [(0,[.keep [0,1,2,12,13],.keepR []])],
 [],[],false⟩
noncomputable def Da:bQ:=⟨[.one .bool],[]⟩
noncomputable def yy:ct:=⟨74,ay Go.Proofs.Tryz.f144,[.tmp 2],
 [],
 [(0,[.keep [1,19,20,21],.keepR [1]]),(2,[.keep [1,41,42,43],.keepR [1]])],
 [],[],false⟩
noncomputable def I0:bQ:=⟨[.one .bool],[]⟩
noncomputable def Fj:ct:=⟨24,ay Go.Proofs.Tryz.f145,[.tmp 4],
 [],
 [],
 [],[],false⟩
noncomputable def FH:bQ:=⟨[.one (.int .i64)],[]⟩
noncomputable def BS:ct:=⟨21,ay Go.Proofs.Tryz.f146,[.tmp 2],
 [],
 [(0,[.keep [0,5,6,7],.keepR []])],
 [],[],false⟩
noncomputable def Gy:bQ:=⟨[.one .str,.one (.int .i64)],[]⟩
noncomputable def Db:ct:=⟨24,ay Go.Proofs.Tryz.f147,[.tmp 2,.tmp 3],
 [],
 [(0,[.keep [0,4],.own 4 (.int .u8) false,.keepR [2004]])],
 [],[],false⟩
noncomputable def Jd:bQ:=⟨[.one (.int .i64)],[]⟩
noncomputable def FA:ct:=⟨6,ay Go.Proofs.Tryz.f148,[.tmp 2],
 [],
 [],
 [],[],false⟩
noncomputable def Gj:bQ:=⟨[.one (.int .i64)],[]⟩
noncomputable def Bh:ct:=⟨18,ay Go.Proofs.Tryz.f149,[.tmp 2],
 [],
 [(0,[.keep [0,3],.keepR []])],
 [],[],false⟩
noncomputable def AX:bQ:=⟨[.one .str],[]⟩
noncomputable def yB:ct:=⟨45,ay Go.Proofs.Tryz.f150,[.tmp 4],
 [],
 [(0,[.keep [1,5,18,19,20],.own 5 .bool false,.keepR [2005]]),(2,[.keep [1,5,6,7,18,19,20,25,26],.own 5 .bool false,.keepR [2005]])],
 [],[],false⟩
noncomputable def H9:bQ:=⟨[.one (.int .i64),.one (.own .str false)],[(0,[.str,.bool])]⟩
noncomputable def F8:ct:=⟨65,ay Go.Proofs.Tryz.f152,[.tmp 4,.tmp 5],
 [],
 [],
 [],[],false⟩
noncomputable def HT:bQ:=⟨[.one .bool],[]⟩
noncomputable def Gp:ct:=⟨9,ay Go.Proofs.Tryz.f155,[.tmp 2],
 [],
 [],
 [],[],false⟩
noncomputable def H7:bQ:=⟨[.one .str],[(0,[.str,(.int .i64),(.own (.int .i64) false),.bool])]⟩
noncomputable def FX:ct:=⟨38,ay Go.Proofs.Tryz.f156,[.tmp 4],
 [],
 [],
 [],[],false⟩
noncomputable def yI:bQ:=⟨[.one (.own (.int .i64) false)],[]⟩
noncomputable def vZ:ct:=⟨48,ay Go.Proofs.Tryz.f157,[.tmp 4],
 [],
 [(0,[.keep [7,8],.own 7 (.int .i64) false,.keepR [2007]])],
 [(3,[.keep [0,1],.keepR []]),(6,[.keep [0,6],.keepR []])],[],false⟩
noncomputable def Ix:bQ:=⟨[.one .bool],[]⟩
noncomputable def Gf:ct:=⟨14,ay Go.Proofs.Tryz.f158,[.tmp 4],
 [],
 [],
 [],[],false⟩
noncomputable def IP:bQ:=⟨[.one .str],[]⟩
noncomputable def Fz:bQ:=⟨[.one (.own (.int .i64) false)],[]⟩
noncomputable def BI:ct:=⟨32,ay Go.Proofs.Tryz.f172,[.tmp 4],
 [],
 [(0,[.keep [1,5,11,12,13],.own 5 (.int .i64) false,.keepR [2005]])],
 [],[],false⟩
noncomputable def IO:bQ:=⟨[.one .bool],[]⟩
noncomputable def GF:ct:=⟨36,ay Go.Proofs.Tryz.f173,[.tmp 4],
 [],
 [],
 [],[],false⟩
noncomputable def Jw:bQ:=⟨[.one .bool],[]⟩
noncomputable def Gz:ct:=⟨12,ay Go.Proofs.Tryz.f174,[.tmp 3],
 [],
 [],
 [],[],false⟩
noncomputable def Ik:bQ:=⟨[.one .bool],[]⟩
noncomputable def FG:ct:=⟨9,ay Go.Proofs.Tryz.f175,[.tmp 4],
 [],
 [],
 [],[],false⟩
noncomputable def FU:bQ:=⟨[.one .str],[]⟩
noncomputable def Bt:ct:=⟨31,ay Go.Proofs.Tryz.f176,[.tmp 2],
 [],
 [(0,[.keep [3,10,11,12],.own 3 (.int .u8) false,.keepR [2003]])],
 [],[],false⟩
noncomputable def HZ:bQ:=⟨[.one (.int .i64),.one (.own .str false)],[(0,[.str,.bool])]⟩
noncomputable def F9:ct:=⟨7,ay Go.Proofs.Tryz.f177,[.tmp 2,.tmp 3],
 [],
 [],
 [],[],false⟩
noncomputable def I9:bQ:=⟨[.one (.int .u8)],[(0,[.str,.bool])]⟩
noncomputable def Fo:ct:=⟨26,ay Go.Proofs.Tryz.f178,[.tmp 2],
 [],
 [],
 [],[],false⟩
noncomputable def IY:bQ:=⟨[.one (.int .i64),.one .str],[(0,[.str,.bool])]⟩
noncomputable def F5:ct:=⟨47,ay Go.Proofs.Tryz.f179,[.tmp 4,.tmp 5],
 [],
 [],
 [],[],false⟩
noncomputable def HY:bQ:=⟨[.one .str],[(0,[.str,.bool])]⟩
noncomputable def Gq:ct:=⟨42,ay Go.Proofs.Tryz.f180,[.tmp 4],
 [],
 [],
 [],[],false⟩
noncomputable def F7:bQ:=⟨[.one (.own .str false)],[(0,[.str,.bool])]⟩
noncomputable def BC:ct:=⟨53,ay Go.Proofs.Tryz.f181,[.tmp 6],
 [],
 [(0,[.keep [0,1,2,7],.own 7 .str false,.keepR [1000,2007]])],
 [],[],false⟩
noncomputable def H5:bQ:=⟨[.one (.int .u64),.one (.int .u64)],[]⟩
noncomputable def GB:ct:=⟨30,ay Go.Proofs.Tryz.f187,[.tmp 4,.tmp 5],
 [],
 [],
 [],[],false⟩
noncomputable def F3:bQ:=⟨[.one (.int .i64)],[]⟩
noncomputable def Bo:ct:=⟨19,ay Go.Proofs.Tryz.f192,[.tmp 4],
 [],
 [(0,[.keep [0,1,7,8],.keepR []])],
 [],[],false⟩
noncomputable def Jh:bQ:=⟨[.one .str,.one .str,.one .bool],[]⟩
noncomputable def IV:bQ:=⟨[.one (.int .u64),.one (.int .u64)],[]⟩
noncomputable def Ge:ct:=⟨51,ay Go.Proofs.Tryz.f198,[.tmp 4,.tmp 5],
 [],
 [],
 [],[],false⟩
noncomputable def Ko:List (Nat×jg):=[
 (3,⟨false,1,8,[(.int .i64 0)],some .i64,false,none,0,[],0,[],false,false,false,false⟩),
 (4,⟨false,1,1,[(.bool false)],none,false,none,0,[],0,[],false,true,false,false⟩),
 (5,⟨false,1,1,[(.int .u8 0)],some .u8,false,none,0,[],0,[],false,false,false,false⟩),
 (9,⟨false,1,16,[(.str [])],none,true,none,0,[],0,[],false,false,false,false⟩),
 (23,⟨false,1,24,[.nils],none,false,some .str,9,[(.str [])],16,[],false,false,false,false⟩),
 (25,⟨false,1,24,[.nils],none,false,some .arr,27,[(.int .i64 0),(.int .i64 0),(.int .i64 0),(.str []),(.str []),(.str []),.nils],96,[],false,false,false,false⟩),
 (27,⟨true,7,96,[(.int .i64 0),(.int .i64 0),(.int .i64 0),(.str []),(.str []),(.str []),.nils],none,false,none,0,[],0,[(0,1,3),(1,1,3),(2,1,3),(3,1,9),(4,1,9),(5,1,9),(6,1,25)],false,false,false,false⟩),
 (30,⟨false,1,24,[.nils],none,false,some .node,58,[(.int .i64 0),(.int .i64 0),(.bool false)],24,[],false,false,false,false⟩),
 (32,⟨true,1,24,[.nils],none,false,none,0,[],0,[(0,1,30)],false,false,false,false⟩),
 (34,⟨false,1,8,[(.int .u64 0)],some .u64,false,none,0,[],0,[],false,false,false,false⟩),
 (40,⟨false,1,24,[.nils],none,false,some (.int .i64),3,[(.int .i64 0)],8,[],false,false,false,false⟩),
 (42,⟨true,3,72,[.nils,.nils,.nils],none,false,none,0,[],0,[(0,1,40),(1,1,40),(2,1,23)],false,false,false,false⟩),
 (55,⟨false,1,24,[.nils],none,false,some (.int .u8),5,[(.int .u8 0)],1,[],false,false,false,false⟩),
 (58,⟨true,3,24,[(.int .i64 0),(.int .i64 0),(.bool false)],none,false,none,0,[],0,[(0,1,3),(1,1,3),(2,1,4)],true,false,false,false⟩),
 (76,⟨false,1,24,[.nils],none,false,some (.list .str),23,[.nils],24,[],false,false,false,false⟩),
 (91,⟨true,2,32,[.nilp,.nils],none,false,none,0,[],0,[(0,1,89),(1,1,55)],false,false,true,false⟩),
 (93,⟨false,1,16,[.und],none,false,none,0,[],0,[],false,false,false,true⟩),
 (104,⟨true,2,24,[(.str []),(.bool false)],none,false,none,0,[],0,[(0,1,9),(1,1,4)],true,false,false,false⟩),
 (119,⟨false,1,4,[(.int .u32 0)],some .u32,false,none,0,[],0,[],false,false,false,false⟩),
 (131,⟨false,1,24,[.nils],none,false,some .bool,4,[(.bool false)],1,[],false,false,false,false⟩),
 (148,⟨false,1,8,[(.int .u64 0)],some .u64,false,none,0,[],0,[],false,false,false,false⟩),
 (153,⟨true,4,56,[(.str []),(.int .i64 0),.nils,(.bool false)],none,false,none,0,[],0,[(0,1,9),(1,1,3),(2,1,40),(3,1,4)],false,false,false,false⟩),
 (179,⟨true,2,24,[(.str []),(.bool false)],none,false,none,0,[],0,[(0,1,9),(1,1,4)],true,false,false,false⟩)]
noncomputable def I8:List (Nat×List PK):=[
 (12,[.one (.int .i64),.one (.int .i64)]),
 (17,[.agg [(.list .node)],.one (.int .i64),.one (.list .str)]),
 (20,[.one (.int .i64)]),
 (22,[.agg [(.list .node)],.one (.int .i64),.agg [(.list (.int .i64)),(.list (.int .i64)),(.list .str)]]),
 (23,[.agg [(.list .node)],.one (.int .i64),.agg [(.list (.int .i64)),(.list (.int .i64)),(.list .str)]]),
 (24,[.agg [(.list .node)],.one (.int .i64),.one .str]),
 (26,[.agg [(.list (.int .i64)),(.list (.int .i64)),(.list .str)],.agg [(.list (.int .i64)),(.list (.int .i64)),(.list .str)]]),
 (30,[.one .str]),
 (31,[.one (.int .i64),.one (.int .i64)]),
 (32,[.agg [(.list .node)],.one (.int .i64),.agg [(.list (.int .i64)),(.list (.int .i64)),(.list .str)]]),
 (34,[.agg [(.list .node)],.one (.int .i64),.agg [(.list (.int .i64)),(.list (.int .i64)),(.list .str)],.one (.int .i64)]),
 (36,[.agg [(.list .node)],.one (.int .i64),.one (.list .str)]),
 (38,[.one (.list .str),.one (.list .str)]),
 (41,[]),
 (46,[.one (.int .i64)]),
 (47,[.agg [(.list .node)],.one (.int .i64)]),
 (48,[.agg [(.list .node)],.one (.int .i64),.one .str]),
 (49,[.agg [(.list .node)],.one (.int .i64),.one (.list .str)]),
 (52,[.agg [(.list .node)],.one (.int .i64),.agg [(.list (.int .i64)),(.list (.int .i64)),(.list .str)]]),
 (53,[.agg [(.list .node)],.one (.int .i64)]),
 (54,[.one (.list (.int .i64)),.one (.int .i64)]),
 (55,[.bw 91,.one .str]),
 (56,[.one (.int .i64),.one (.int .i64)]),
 (57,[.one .str]),
 (58,[.one .str]),
 (59,[.br 91 5]),
 (60,[.agg [(.list .node)],.one (.int .i64)]),
 (61,[.one (.list (.int .i64)),.one (.int .i64)]),
 (62,[.one (.int .i64)]),
 (63,[.one .str]),
 (64,[.agg [(.list .node)],.one (.int .i64)]),
 (65,[.one .str]),
 (66,[.rw [.str,.bool]]),
 (67,[.one .str,.one (.int .i64),.one (.int .i64)]),
 (68,[.rw [.str,.bool],.one (.int .i64)]),
 (69,[.one (.int .u64)]),
 (70,[.one (.list (.int .i64)),.one (.int .i64)]),
 (71,[.rw [.str,.bool],.one (.int .i64)]),
 (72,[.agg [(.list .node)],.one (.int .i64)]),
 (76,[.one (.list (.int .i64)),.one (.list (.int .i64))]),
 (78,[.agg [(.list .node)]]),
 (80,[.ro [(.list (.int .i64)),(.list (.int .i64)),(.list .str)],.one (.int .i64),.one (.int .i64)]),
 (81,[]),
 (86,[.one (.int .i64)]),
 (87,[.one .str]),
 (88,[.agg [(.list .node)],.one (.int .i64)]),
 (89,[.one (.int .i64)]),
 (90,[.one (.list .str)]),
 (91,[.one .str]),
 (92,[.one (.list .str)]),
 (93,[.agg [(.list .node)],.one (.int .i64)]),
 (94,[.one (.list .bool)]),
 (97,[.one (.list (.int .i64)),.one (.int .i64)]),
 (98,[]),
 (99,[.agg [(.list .node)],.one (.int .i64),.one .str]),
 (100,[.agg [(.list .node)],.one (.int .i64)]),
 (101,[.ro [(.list .node)],.one (.int .i64)]),
 (102,[.one (.list (.int .i64)),.one (.int .i64)]),
 (104,[.one .str]),
 (105,[.one .str]),
 (106,[.one (.list (.int .i64)),.one (.int .i64)]),
 (107,[.one (.int .i64)]),
 (108,[.one (.int .i64)]),
 (109,[.one (.list (.int .i64)),.one (.int .i64)]),
 (110,[.one .str]),
 (111,[.one (.int .i64)]),
 (112,[.one .str,.one (.int .i64),.one (.int .i64)]),
 (113,[.one .str,.one (.int .i64)]),
 (114,[.rw [.str,(.int .i64),(.own (.int .i64) false),.bool],.one (.int .i64),.one (.int .i64)]),
 (115,[.rw [.str,(.int .i64),(.own (.int .i64) false),.bool],.one (.int .i64),.one (.int .i64)]),
 (117,[.one (.int .u64)]),
 (118,[.one (.int .i64)]),
 (119,[.one .bool]),
 (120,[.one .str]),
 (121,[.rw [.str,.bool]]),
 (123,[.one (.int .i64)]),
 (128,[.one (.int .i64),.one (.int .i64),.one (.int .i64)]),
 (129,[.agg [(.list .node)],.one (.int .i64)]),
 (133,[.one .str,.one (.int .i64),.one (.int .i64)]),
 (134,[.one .str,.one (.int .i64),.one (.int .u8)]),
 (135,[.one (.list .str)]),
 (141,[.agg [(.list .node)],.one (.int .i64)]),
 (142,[.one (.int .i64),.one .str,.ro [(.list .node)]]),
 (143,[.one (.list (.int .i64)),.one (.list .str),.fn]),
 (144,[.agg [(.list .node)]]),
 (145,[.one (.list (.int .i64)),.one (.int .i64)]),
 (146,[.one (.list (.int .i64))]),
 (147,[.one (.int .i64)]),
 (148,[.one (.int .i64)]),
 (149,[.one (.list (.int .i64))]),
 (150,[.one (.list (.int .i64)),.one (.int .i64)]),
 (152,[.rw [.str,.bool],.one (.int .i64)]),
 (155,[.one (.int .i64)]),
 (156,[.rw [.str,(.int .i64),(.own (.int .i64) false),.bool],.one (.int .i64)]),
 (157,[.one (.list (.int .i64)),.one (.int .i64)]),
 (158,[.one .str,.one (.int .i64)]),
 (159,[.one (.int .i64)]),
 (172,[.ro [(.list .node)],.one (.int .i64)]),
 (173,[.ro [(.list .node)],.one (.int .i64)]),
 (174,[.one (.int .i64),.ro [(.int .i64)]]),
 (175,[.one (.list (.int .i64)),.fn]),
 (176,[.one (.list .bool)]),
 (177,[.rw [.str,.bool]]),
 (178,[.rw [.str,.bool]]),
 (179,[.rw [.str,.bool],.one .str]),
 (180,[.rw [.str,.bool],.one (.int .i64)]),
 (181,[.rw [.str,.bool],.one (.int .u8),.one (.int .i64)]),
 (187,[.one (.int .u64),.one (.int .u64)]),
 (192,[.one (.list (.int .i64)),.fn]),
 (193,[.one .str,.one .str]),
 (198,[.one (.int .u64),.one (.int .u64)])]
noncomputable def Ku:List (Nat×bQ):=[(12,J8),(17,Ie),(20,JZ),(22,HG),(23,IJ),(24,I1),(26,JV),(30,GP),(31,JB),(32,Hq),(34,HV),(36,IR),(38,IM),(41,J3),(46,Jm),(47,J2),(48,Jf),(49,BR),(52,I6),(53,Iz),(54,J6),(56,JQ),(57,JI),(58,G3),(60,G6),(61,Dq),(62,JP),(63,J5),(64,JW),(65,II),(66,JS),(67,Hi),(68,JK),(69,JH),(70,IX),(71,JR),(72,JO),(76,Jx),(78,Ih),(80,Ho),(81,J7),(86,GM),(87,HD),(88,JE),(89,JL),(90,IQ),(91,Iq),(92,JG),(93,JA),(94,Jb),(97,Jo),(98,JC),(99,IT),(100,I2),(101,FY),(102,Gx),(104,IA),(105,Ic),(106,FP),(107,FZ),(108,IF),(109,A5),(110,Jl),(111,Jr),(112,Iw),(113,FR),(114,I3),(115,BH),(117,Jq),(118,Im),(119,Jy),(120,Ij),(121,Jk),(123,Ji),(128,It),(129,FC),(133,FI),(134,GG),(135,Ib),(141,IK),(142,Io),(143,IE),(144,Da),(145,I0),(146,FH),(147,Gy),(148,Jd),(149,Gj),(150,AX),(152,H9),(155,HT),(156,H7),(157,yI),(158,Ix),(159,IP),(172,Fz),(173,IO),(174,Jw),(175,Ik),(176,FU),(177,HZ),(178,I9),(179,IY),(180,HY),(181,F7),(187,H5),(192,F3),(193,Jh),(198,IV)]
noncomputable def Kp:List (Nat×ct):=[(12,Jc),(17,Hf),(20,IS),(22,ED),(23,Hk),(24,GT),(26,Jv),(30,DN),(31,I7),(32,Dw),(34,G7),(36,Hh),(38,HA),(41,Jp),(46,Hw),(47,IL),(48,GZ),(49,zu),(52,Hn),(53,GO),(54,Ja),(56,Ii),(57,H8),(58,E3),(60,D1),(61,CN),(62,Is),(63,H6),(64,Jt),(65,Ht),(66,IG),(67,E7),(68,H2),(69,Jg),(70,GX),(71,IZ),(72,Js),(76,Hy),(78,GU),(80,Ee),(81,Iy),(86,Fg),(87,DI),(88,Ip),(89,Ju),(90,He),(91,GI),(92,H4),(93,If),(94,GQ),(97,GV),(98,I5),(99,GR),(100,Gg),(101,CO),(102,Ax),(104,Fv),(106,Bi),(107,Ba),(108,FB),(109,yX),(110,Gk),(111,Gn),(112,FD),(113,Bj),(114,F6),(115,yV),(117,FM),(118,Ft),(119,FO),(120,F2),(121,GE),(123,F4),(128,FN),(129,A4),(133,CP),(134,B7),(135,Gw),(141,Fq),(142,FK),(143,FQ),(144,yy),(145,Fj),(146,BS),(147,Db),(148,FA),(149,Bh),(150,yB),(152,F8),(155,Gp),(156,FX),(157,vZ),(158,Gf),(172,BI),(173,GF),(174,Gz),(175,FG),(176,Bt),(177,F9),(178,Fo),(179,F5),(180,Gq),(181,BC),(187,GB),(192,Bo),(198,Ge)]
noncomputable def Dc (f:FuncId):List PK:=match look f I8 with|some l=>l|none=>[]
noncomputable def pR (f:FuncId):bQ:=match look f Ku with|some s=>s|none=>⟨[],[]⟩
noncomputable def BB (f:FuncId)(args:List lM):Option (pR f).den:=
 if h:f=105 then h.symm ▸ (show Option (pR 105).den from sx args) else
 if h:f=159 then h.symm ▸ (show Option (pR 159).den from rT args) else
 if h:f=193 then h.symm ▸ (show Option (pR 193).den from uN args) else
 none
noncomputable def E (bar:aF):e7:=⟨fun f=>look f Kp,fun t=>look t Ko,Dc,pR,BB,bar⟩
end Go.Proofs.YtjkokaockhecnaaGreatDoorA
