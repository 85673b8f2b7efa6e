/- The functions, types, parameters and results of the program, as the machine is told of them: definitions alone. -/
import Derived.Test.YtjkokaockhecnaaGreatDoorProg
import Derived.Test.YtjkokaockhecnaaGreatDoorExt
namespace Go.Proofs.YtjkokaockhecnaaGreatDoorA
open Go
set_option linter.unusedVariables false
noncomputable def aj (f:Func):Code:=match f.body with|some c=>c|none=>.skip
noncomputable def QQ:bU:=⟨[.one .bool],[]⟩
noncomputable def QL:cn:=⟨77,aj Go.Proofs.Tryz.f4,[.tmp 8],
 [],
 [],
 [],[],false⟩
noncomputable def P5:bU:=⟨[.one .bool],[]⟩
noncomputable def PY:cn:=⟨92,aj Go.Proofs.Tryz.f10,[.tmp 10],
 [],
 [],
 [],[],false⟩
noncomputable def Qx:bU:=⟨[.one .str],[]⟩
noncomputable def NV:cn:=⟨7,aj Go.Proofs.Tryz.f16,[.tmp 2],
 [],
 [],
 [],[],false⟩
noncomputable def NU:bU:=⟨[.el .arr,.one (.int .i64)],[]⟩
noncomputable def Nr:cn:=⟨42,aj Go.Proofs.Tryz.f17,[.cell 6 27,.tmp 7],
 [],
 [(0,[.keep [1,2,3,6,8],.cell 6 6 .arr false,.keepR [3,6]])],
 [],[],false⟩
noncomputable def Qm:bU:=⟨[.one (.int .i64)],[]⟩
noncomputable def Pv:cn:=⟨4,aj Go.Proofs.Tryz.f20,[.tmp 2],
 [],
 [],
 [],[],false⟩
noncomputable def Qz:bU:=⟨[.el .col],[]⟩
noncomputable def Ob:cn:=⟨16,aj Go.Proofs.Tryz.f21,[.cell 2 42],
 [],
 [],
 [],[],false⟩
noncomputable def Nj:bU:=⟨[.one .str,.one (.int .i64)],[]⟩
noncomputable def Jn:cn:=⟨75,aj Go.Proofs.Tryz.f22,[.tmp 6,.tmp 7],
 [],
 [(0,[.keep [5,11,12,13,45,46,47],.bself 13,.own 45 (.int .i64) false,.cell 13 1 (.int .u8) false,.keepR [5,13,2045]]),(2,[.keep [13,60,61,62],.bself 13,.cell 13 1 (.int .u8) false,.keepR [13]])],
 [],[],false⟩
noncomputable def Oz:bU:=⟨[.one .str,.one (.int .i64)],[]⟩
noncomputable def NG:cn:=⟨81,aj Go.Proofs.Tryz.f23,[.tmp 6,.tmp 7],
 [],
 [(0,[.keep [5,15,16],.keepR [5]])],
 [],[],false⟩
noncomputable def PQ:bU:=⟨[.agg [(.own (.int .i64) false),(.own (.int .i64) false),(.own .str false)],.one (.int .i64)],[]⟩
noncomputable def MV:cn:=⟨134,aj Go.Proofs.Tryz.f24,[.cell 6 42,.tmp 7],
 [],
 [(0,[.keep [1,2,3,6,11,15,16,17,82,83],.cell 15 0 (.int .i64) false,.cell 15 1 (.int .i64) false,.cell 15 2 .str false,.cell 6 0 (.int .i64) false,.cell 6 1 (.int .i64) false,.cell 6 2 .str false,.keepR [3,6,15,48]])],
 [],[],false⟩
noncomputable def Oh:bU:=⟨[.el .col,.one (.int .i64)],[]⟩
noncomputable def L2:cn:=⟨182,aj Go.Proofs.Tryz.f25,[.cell 6 42,.tmp 7],
 [],
 [(0,[.keep [1,2,3,6,8,11,13,16,18,19,20,21],.own 18 (.int .i64) false,.own 19 (.int .i64) false,.cell 6 0 (.int .i64) false,.cell 6 1 (.int .i64) false,.cell 6 2 .str false,.keepR [3,6,2018,2019]])],
 [],[],false⟩
noncomputable def P8:bU:=⟨[.one .bool],[]⟩
noncomputable def Px:cn:=⟨24,aj Go.Proofs.Tryz.f26,[.tmp 4],
 [],
 [],
 [],[],false⟩
noncomputable def Qh:bU:=⟨[],[]⟩
noncomputable def OB:cn:=⟨11,aj Go.Proofs.Tryz.f27,[],
 [],
 [],
 [],[],false⟩
noncomputable def QA:bU:=⟨[.one .bool],[]⟩
noncomputable def O8:cn:=⟨87,aj Go.Proofs.Tryz.f28,[.tmp 0],
 [],
 [],
 [],[23,32,40],false⟩
noncomputable def Qk:bU:=⟨[.agg [(.own .node false)]],[]⟩
noncomputable def OK:cn:=⟨4,aj Go.Proofs.Tryz.f29,[.cell 0 32],
 [],
 [],
 [],[],false⟩
noncomputable def MH:bU:=⟨[.one (.int .i64)],[]⟩
noncomputable def JF:cn:=⟨33,aj Go.Proofs.Tryz.f30,[.tmp 2],
 [],
 [(0,[.keep [0,3,4],.keepR []]),(2,[.keep [0,3,4,5],.keepR []])],
 [],[],false⟩
noncomputable def Qn:bU:=⟨[.one .str],[]⟩
noncomputable def OY:cn:=⟨24,aj Go.Proofs.Tryz.f31,[.tmp 4],
 [],
 [(0,[.keep [0,1,5,6],.own 5 (.int .u8) false,.keepR [2005]])],
 [],[],false⟩
noncomputable def Nq:bU:=⟨[.one .bool],[]⟩
noncomputable def J0:cn:=⟨116,aj Go.Proofs.Tryz.f32,[.tmp 6],
 [],
 [(0,[.keep [1,3,5,7,8,10,11],.keepR [3,5]]),(2,[.keep [1,3,5,10,12],.keepR [3,5]])],
 [],[],false⟩
noncomputable def Qu:bU:=⟨[.one (.room .str)],[]⟩
noncomputable def N2:cn:=⟨12,aj Go.Proofs.Tryz.f33,[.tmp 2],
 [(2,[.froze 7 0])],
 [],
 [],[],false⟩
noncomputable def Pz:bU:=⟨[.one (.own .str false),.one (.int .i64)],[]⟩
noncomputable def Me:cn:=⟨94,aj Go.Proofs.Tryz.f34,[.tmp 8,.tmp 9],
 [],
 [(0,[.keep [1,3,4,6,11,13],.own 13 .str false,.keepR [4,6,2013]])],
 [],[],false⟩
noncomputable def M6:bU:=⟨[.one (.own .str false),.one (.int .i64)],[]⟩
noncomputable def JG:cn:=⟨134,aj Go.Proofs.Tryz.f35,[.tmp 8,.tmp 9],
 [],
 [(0,[.keep [1,3,4,6,11,13,14,15,16,17],.own 13 .str false,.cell 14 0 (.int .i64) false,.cell 14 1 (.int .i64) false,.cell 14 2 .str false,.keepR [4,6,14,2013]])],
 [(17,[.keep [1,3,4,6,11,13,14,15,16,17],.own 13 .str false,.cell 14 0 (.int .i64) false,.cell 14 1 (.int .i64) false,.cell 14 2 .str false,.keepR [4,6,14,2013]])],[],false⟩
noncomputable def N9:bU:=⟨[.agg [(.own (.int .i64) false),(.own (.int .i64) false),(.own .str false)],.one (.int .i64)],[]⟩
noncomputable def L0:cn:=⟨78,aj Go.Proofs.Tryz.f36,[.cell 6 42,.tmp 7],
 [],
 [(0,[.keep [1,3,6,8,9,17,18,19],.cell 6 0 (.int .i64) false,.cell 6 1 (.int .i64) false,.cell 6 2 .str false,.cell 8 0 (.int .i64) false,.cell 8 1 (.int .i64) false,.cell 8 2 .str false,.keepR [3,6,8]])],
 [],[],false⟩
noncomputable def N8:bU:=⟨[.el .col,.one (.int .i64)],[]⟩
noncomputable def NI:cn:=⟨78,aj Go.Proofs.Tryz.f37,[.cell 6 42,.tmp 7],
 [],
 [(0,[.keep [1,2,3,6,8,9],.cell 6 0 (.int .i64) false,.cell 6 1 (.int .i64) false,.cell 6 2 .str false,.cell 8 0 (.int .i64) false,.cell 8 1 (.int .i64) false,.cell 8 2 .str false,.keepR [3,6,8]])],
 [],[],false⟩
noncomputable def OV:bU:=⟨[.one .bool],[]⟩
noncomputable def MU:cn:=⟨26,aj Go.Proofs.Tryz.f38,[.tmp 4],
 [],
 [(0,[.keep [0,1,5],.keepR []])],
 [],[],false⟩
noncomputable def On:bU:=⟨[],[]⟩
noncomputable def MG:cn:=⟨17,aj Go.Proofs.Tryz.f39,[],
 [],
 [(0,[.keep [0,2],.own 0 .str false,.keepR [2000]])],
 [],[],false⟩
noncomputable def QC:bU:=⟨[.one .bool],[]⟩
noncomputable def Oq:cn:=⟨31,aj Go.Proofs.Tryz.f40,[.tmp 4],
 [],
 [],
 [],[],false⟩
noncomputable def P9:bU:=⟨[.one .bool],[]⟩
noncomputable def OG:cn:=⟨83,aj Go.Proofs.Tryz.f41,[.tmp 0],
 [(2,[.froze 12 0,.froze 13 0,.froze 14 0]),(3,[.froze 19 0])],
 [],
 [],[17,23,29,35,36,41],false⟩
noncomputable def OW:bU:=⟨[.one .str],[]⟩
noncomputable def Ni:cn:=⟨22,aj Go.Proofs.Tryz.f46,[.tmp 2],
 [],
 [(0,[.keep [0,3],.keepR []])],
 [],[],false⟩
noncomputable def Qf:bU:=⟨[.one .bool],[]⟩
noncomputable def Oy:cn:=⟨18,aj Go.Proofs.Tryz.f47,[.tmp 4],
 [],
 [],
 [],[],false⟩
noncomputable def Of:bU:=⟨[.one .bool],[]⟩
noncomputable def Nk:cn:=⟨105,aj Go.Proofs.Tryz.f48,[.tmp 6],
 [],
 [(0,[.keep [3,8,9,11,13],.own 9 .str false,.own 11 (.int .i64) false,.keepR [3,2009,2011]])],
 [],[],false⟩
noncomputable def H9:bU:=⟨[.el .arr,.one .bool],[]⟩
noncomputable def EQ:cn:=⟨222,aj Go.Proofs.Tryz.f49,[.cell 6 27,.tmp 7],
 [],
 [(0,[.keep [1,2,3,6,8,9,11,12,13],.own 9 (.int .i64) false,.own 12 .bool false,.cell 6 6 .arr false,.cell 8 6 .arr false,.keepR [3,6,8,40,2009,2012]]),(3,[.keep [1,2,3,6,8,9,11,12,13,14,15,18],.own 9 (.int .i64) false,.own 12 .bool false,.own 15 .str false,.cell 6 6 .arr false,.cell 8 6 .arr false,.keepR [3,6,8,40,2009,2012,2015]]),(6,[.keep [3,6,8,9,11,20],.own 9 (.int .i64) false,.cell 6 6 .arr false,.cell 8 6 .arr false,.keepR [3,6,8,40,2009]])],
 [(39,[.keep [3,6,8,9,11],.own 9 (.int .i64) false,.cell 6 6 .arr false,.cell 8 6 .arr false,.keepR [3,6,8,40,2009]])],[],false⟩
noncomputable def Py:bU:=⟨[.one .bool],[]⟩
noncomputable def Nn:cn:=⟨78,aj Go.Proofs.Tryz.f52,[.tmp 6],
 [],
 [(0,[.keep [1,3,5,8,53,54,55],.keepR [3,5]])],
 [],[],false⟩
noncomputable def OT:bU:=⟨[.one (.int .i64),.one (.int .i64),.one (.int .i64)],[]⟩
noncomputable def Na:cn:=⟨44,aj Go.Proofs.Tryz.f53,[.tmp 4,.tmp 5,.tmp 6],
 [],
 [(0,[.keep [2,7,8,16,17,18],.own 16 (.int .i64) false,.keepR [2,2016]])],
 [],[],false⟩
noncomputable def Qy:bU:=⟨[.one .str],[]⟩
noncomputable def N3:cn:=⟨16,aj Go.Proofs.Tryz.f54,[.tmp 4],
 [],
 [],
 [],[],false⟩
noncomputable def Qi:bU:=⟨[.one .str],[]⟩
noncomputable def Ou:cn:=⟨25,aj Go.Proofs.Tryz.f56,[.tmp 4],
 [],
 [(0,[.keep [0,5,10,11],.own 5 (.int .u8) false,.keepR [2005]])],
 [],[],false⟩
noncomputable def QG:bU:=⟨[.one .str],[]⟩
noncomputable def OD:cn:=⟨45,aj Go.Proofs.Tryz.f57,[.tmp 2],
 [],
 [],
 [],[],false⟩
noncomputable def Nb:bU:=⟨[.one (.int .i64)],[]⟩
noncomputable def J2:cn:=⟨31,aj Go.Proofs.Tryz.f58,[.tmp 2],
 [],
 [(0,[.keep [0,3,7,8],.keepR []]),(2,[.keep [0,3,7,8,17],.keepR []])],
 [],[],false⟩
noncomputable def MC:bU:=⟨[.one (.int .i64),.one (.int .i64),.one (.int .i64)],[]⟩
noncomputable def Ju:cn:=⟨42,aj Go.Proofs.Tryz.f60,[.tmp 4,.tmp 5,.tmp 6],
 [],
 [(0,[.keep [1,2,7,8],.keepR [2]])],
 [(8,[.keep [1,2,7,8],.keepR [2]])],[],false⟩
noncomputable def IP:bU:=⟨[.one .str,.one (.int .i64)],[]⟩
noncomputable def Fo:cn:=⟨118,aj Go.Proofs.Tryz.f61,[.tmp 4,.tmp 5],
 [],
 [(0,[.keep [0,1,6],.keepR []]),(2,[.keep [0,1,7,8],.keepR []]),(4,[.keep [0,1,7,8,12],.keepR []])],
 [],[],false⟩
noncomputable def Qd:bU:=⟨[.one (.int .i64)],[]⟩
noncomputable def OZ:cn:=⟨11,aj Go.Proofs.Tryz.f62,[.tmp 2],
 [],
 [(0,[.keep [0,3],.keepR []])],
 [],[],false⟩
noncomputable def Qg:bU:=⟨[.one .str],[]⟩
noncomputable def OL:cn:=⟨32,aj Go.Proofs.Tryz.f63,[.tmp 2],
 [],
 [],
 [],[],false⟩
noncomputable def Qq:bU:=⟨[.one .bool],[]⟩
noncomputable def PH:cn:=⟨18,aj Go.Proofs.Tryz.f64,[.tmp 4],
 [],
 [],
 [],[],false⟩
noncomputable def OS:bU:=⟨[.one (.int .i64)],[]⟩
noncomputable def M1:cn:=⟨22,aj Go.Proofs.Tryz.f65,[.tmp 2],
 [],
 [(0,[.keep [0,3,6,7],.keepR []])],
 [],[],false⟩
noncomputable def QH:bU:=⟨[.one (.int .i64)],[(0,[.str,.bool])]⟩
noncomputable def PU:cn:=⟨27,aj Go.Proofs.Tryz.f66,[.tmp 2],
 [],
 [],
 [],[],false⟩
noncomputable def NC:bU:=⟨[.one (.own (.int .i64) false),.one (.int .i64)],[]⟩
noncomputable def IF:cn:=⟨136,aj Go.Proofs.Tryz.f67,[.tmp 6,.tmp 7],
 [],
 [(0,[.keep [0,1,2,8],.cell 32 2 (.int .i64) false,.keepR [32]])],
 [(12,[.keep [0,1,2,8,9],.cell 32 2 (.int .i64) false,.keepR [32]])],[],false⟩
noncomputable def Qv:bU:=⟨[.one .str],[(0,[.str,.bool])]⟩
noncomputable def OA:cn:=⟨42,aj Go.Proofs.Tryz.f68,[.tmp 4],
 [],
 [],
 [],[],false⟩
noncomputable def Qe:bU:=⟨[.one (.int .i64)],[]⟩
noncomputable def Oc:cn:=⟨8,aj Go.Proofs.Tryz.f69,[.tmp 2],
 [],
 [],
 [],[],false⟩
noncomputable def PE:bU:=⟨[.one (.int .i64)],[]⟩
noncomputable def MB:cn:=⟨21,aj Go.Proofs.Tryz.f70,[.tmp 4],
 [],
 [(0,[.keep [1,5,8,9,10],.keepR []])],
 [],[],false⟩
noncomputable def Qb:bU:=⟨[.one .str],[(0,[.str,.bool])]⟩
noncomputable def PR:cn:=⟨22,aj Go.Proofs.Tryz.f71,[.tmp 4],
 [],
 [],
 [],[],false⟩
noncomputable def QE:bU:=⟨[.one .bool],[]⟩
noncomputable def NQ:cn:=⟨17,aj Go.Proofs.Tryz.f72,[.tmp 4],
 [],
 [],
 [],[],false⟩
noncomputable def Qr:bU:=⟨[.one (.int .i64),.one (.int .i64)],[]⟩
noncomputable def PP:cn:=⟨42,aj Go.Proofs.Tryz.f73,[.tmp 6,.tmp 7],
 [],
 [],
 [],[],false⟩
noncomputable def EO:bU:=⟨[.one (.own (.int .i64) false),.one (.int .i64)],[]⟩
noncomputable def Bi:cn:=⟨149,aj Go.Proofs.Tryz.f74,[.tmp 6,.tmp 7],
 [],
 [(0,[.keep [0,1,2,8,9],.own 8 (.int .i64) false,.keepR [2008]]),(2,[.keep [0,1,2,8,10,11,13,14,15],.own 8 (.int .i64) false,.keepR [2008]]),(4,[.keep [0,1,2,8,10,11,13,14,15,16,17],.own 8 (.int .i64) false,.keepR [2008]])],
 [(13,[.keep [0,1,2,8,10,11,13,14],.own 8 (.int .i64) false,.keepR [2008]]),(21,[.keep [0,1,2,8,10,11,13,14,15,16],.own 8 (.int .i64) false,.keepR [2008]])],[],false⟩
noncomputable def IS:bU:=⟨[.one (.own .str false),.one .bool],[]⟩
noncomputable def Gg:cn:=⟨77,aj Go.Proofs.Tryz.f75,[.tmp 6,.tmp 7],
 [],
 [(0,[.keep [0,1,2,8,9,10],.own 8 .str false,.keepR [2008]])],
 [(9,[.keep [0,1,2,8,9,10,11],.own 8 .str false,.keepR [2008]]),(15,[.keep [0,1,2,8,9,10,11],.own 8 .str false,.keepR [2008]])],[],false⟩
noncomputable def O4:bU:=⟨[.one .bool],[]⟩
noncomputable def M4:cn:=⟨26,aj Go.Proofs.Tryz.f76,[.tmp 4],
 [],
 [(0,[.keep [0,1,5],.keepR []])],
 [],[],false⟩
noncomputable def PW:bU:=⟨[],[]⟩
noncomputable def Mc:cn:=⟨17,aj Go.Proofs.Tryz.f77,[],
 [],
 [(0,[.keep [0,2],.own 0 (.int .i64) false,.keepR [2000]])],
 [],[],false⟩
noncomputable def ON:bU:=⟨[.one .bool],[]⟩
noncomputable def MZ:cn:=⟨99,aj Go.Proofs.Tryz.f78,[.tmp 2],
 [],
 [(0,[.keep [1,3,4],.own 3 (.int .i64) false,.keepR [1,2003]])],
 [],[],false⟩
noncomputable def Qo:bU:=⟨[.one (.own .str false)],[]⟩
noncomputable def PN:cn:=⟨6,aj Go.Proofs.Tryz.f79,[.tmp 2],
 [],
 [],
 [],[],false⟩
noncomputable def M8:bU:=⟨[.one (.int .i64),.one (.int .i64)],[]⟩
noncomputable def JY:cn:=⟨49,aj Go.Proofs.Tryz.f80,[.tmp 6,.tmp 7],
 [],
 [(0,[.keep [0,1,2,8,9,15,16,17],.keepR []])],
 [(9,[.keep [0,1,2,8,9,10,15,16,17],.keepR []])],[],false⟩
noncomputable def P6:bU:=⟨[.agg [(.own .node false)]],[]⟩
noncomputable def OX:cn:=⟨4,aj Go.Proofs.Tryz.f81,[.cell 0 32],
 [],
 [],
 [],[],false⟩
noncomputable def M3:bU:=⟨[.one .str],[]⟩
noncomputable def KC:cn:=⟨37,aj Go.Proofs.Tryz.f86,[.tmp 2],
 [],
 [(0,[.keep [0,3,4],.own 4 (.int .u8) false,.keepR [2004]])],
 [(4,[.keep [0,3],.keepR []])],[],false⟩
noncomputable def LV:bU:=⟨[.one (.int .i64),.one (.own .str false),.one (.int .i64)],[]⟩
noncomputable def JK:cn:=⟨64,aj Go.Proofs.Tryz.f87,[.tmp 2,.tmp 3,.tmp 4],
 [],
 [(1,[.keep [0,5,6],.own 5 .str false,.keepR [2005]])],
 [(13,[.keep [0],.keepR []])],[],false⟩
noncomputable def QI:bU:=⟨[.one (.own (.int .i64) false),.one (.int .i64)],[]⟩
noncomputable def OI:cn:=⟨13,aj Go.Proofs.Tryz.f88,[.tmp 4,.tmp 5],
 [],
 [],
 [],[],false⟩
noncomputable def Qp:bU:=⟨[.one .bool],[]⟩
noncomputable def O7:cn:=⟨9,aj Go.Proofs.Tryz.f89,[.tmp 2],
 [],
 [],
 [],[],false⟩
noncomputable def O1:bU:=⟨[.one .str],[]⟩
noncomputable def Md:cn:=⟨31,aj Go.Proofs.Tryz.f90,[.tmp 2],
 [],
 [(0,[.keep [0,3,4,5],.own 3 .bool false,.keepR [2003]])],
 [],[],false⟩
noncomputable def NX:bU:=⟨[.one (.int .i64),.one .bool],[]⟩
noncomputable def MS:cn:=⟨59,aj Go.Proofs.Tryz.f91,[.tmp 2,.tmp 3],
 [],
 [(0,[.keep [0,4,5],.keepR []])],
 [],[],false⟩
noncomputable def Qc:bU:=⟨[.one .str],[]⟩
noncomputable def OO:cn:=⟨18,aj Go.Proofs.Tryz.f92,[.tmp 2],
 [],
 [(0,[.keep [0,3,4],.keepR []])],
 [],[],false⟩
noncomputable def Qw:bU:=⟨[.one .str],[]⟩
noncomputable def OE:cn:=⟨52,aj Go.Proofs.Tryz.f93,[.tmp 4],
 [],
 [(1,[.keep [2,5,7,8],.own 5 (.int .i64) false,.own 7 .str false,.keepR [2,2005,2007]])],
 [],[],false⟩
noncomputable def N7:bU:=⟨[.one .str],[]⟩
noncomputable def LW:cn:=⟨34,aj Go.Proofs.Tryz.f94,[.tmp 2],
 [],
 [(0,[.keep [0,3,4],.own 3 (.int .u8) false,.keepR [2003]])],
 [],[],false⟩
noncomputable def PX:bU:=⟨[.one .bool],[]⟩
noncomputable def MX:cn:=⟨21,aj Go.Proofs.Tryz.f97,[.tmp 4],
 [],
 [(0,[.keep [1,7,8,9],.keepR []])],
 [],[],false⟩
noncomputable def P4:bU:=⟨[.one .str],[]⟩
noncomputable def PG:cn:=⟨1,aj Go.Proofs.Tryz.f98,[.tmp 0],
 [],
 [],
 [],[],false⟩
noncomputable def PO:bU:=⟨[.one .bool],[]⟩
noncomputable def ND:cn:=⟨91,aj Go.Proofs.Tryz.f99,[.tmp 6],
 [],
 [(1,[.keep [7,8,11,13,70,71,72],.view 8 .str,.own 11 (.int .i64) false,.view 70 .str,.keepR [3,2011]])],
 [],[],false⟩
noncomputable def OR:bU:=⟨[.one .bool],[]⟩
noncomputable def LG:cn:=⟨18,aj Go.Proofs.Tryz.f100,[.tmp 4],
 [],
 [],
 [],[],false⟩
noncomputable def LR:bU:=⟨[.one (.own (.int .i64) false)],[]⟩
noncomputable def HH:cn:=⟨21,aj Go.Proofs.Tryz.f101,[.tmp 4],
 [],
 [(0,[.keep [0,1,5],.own 5 (.int .i64) false,.keepR [2005]])],
 [],[],false⟩
noncomputable def KW:bU:=⟨[.one .str,.one (.int .i64)],[]⟩
noncomputable def FC:cn:=⟨62,aj Go.Proofs.Tryz.f102,[.tmp 4,.tmp 5],
 [],
 [(0,[.keep [0,1,6],.bself 6,.cell 6 1 (.int .u8) false,.keepR [6]])],
 [],[],false⟩
noncomputable def NR:bU:=⟨[.one (.int .i64),.one (.own .str false),.one (.int .i64)],[]⟩
noncomputable def KU:cn:=⟨32,aj Go.Proofs.Tryz.f104,[.tmp 2,.tmp 3,.tmp 4],
 [],
 [],
 [],[],false⟩
noncomputable def P0:bU:=⟨[.one (.int .i64),.one .err],[]⟩
noncomputable def Ls:bU:=⟨[.one (.int .i64)],[]⟩
noncomputable def HB:cn:=⟨28,aj Go.Proofs.Tryz.f106,[.tmp 4],
 [],
 [(0,[.keep [0,1,5],.keepR []])],
 [],[],false⟩
noncomputable def LC:bU:=⟨[.one .str,.one (.int .i64)],[]⟩
noncomputable def GK:cn:=⟨26,aj Go.Proofs.Tryz.f107,[.tmp 2,.tmp 3],
 [],
 [(0,[.keep [0,4],.own 4 (.int .u8) false,.keepR [2004]])],
 [],[],false⟩
noncomputable def Or:bU:=⟨[.one (.int .i64)],[]⟩
noncomputable def KI:cn:=⟨6,aj Go.Proofs.Tryz.f108,[.tmp 2],
 [],
 [],
 [],[],false⟩
noncomputable def FH:bU:=⟨[.one .str],[]⟩
noncomputable def Dl:cn:=⟨41,aj Go.Proofs.Tryz.f109,[.tmp 4],
 [],
 [(0,[.keep [0,1,5,6],.own 5 .bool false,.keepR [2005]]),(2,[.keep [0,1,5,6,7],.own 5 .bool false,.keepR [2005]])],
 [],[],false⟩
noncomputable def Ov:bU:=⟨[.one .str],[]⟩
noncomputable def KN:cn:=⟨16,aj Go.Proofs.Tryz.f110,[.tmp 2],
 [],
 [],
 [],[7,10],false⟩
noncomputable def OC:bU:=⟨[.one .bool],[]⟩
noncomputable def KH:cn:=⟨9,aj Go.Proofs.Tryz.f111,[.tmp 2],
 [],
 [],
 [],[],false⟩
noncomputable def O3:bU:=⟨[.one (.int .i64),.one (.int .i64)],[]⟩
noncomputable def LU:cn:=⟨48,aj Go.Proofs.Tryz.f112,[.tmp 6,.tmp 7],
 [],
 [],
 [],[],false⟩
noncomputable def KP:bU:=⟨[.one (.int .i64),.one (.int .i64),.one (.int .i64)],[]⟩
noncomputable def H7:cn:=⟨70,aj Go.Proofs.Tryz.f113,[.tmp 4,.tmp 5,.tmp 6],
 [],
 [(0,[.keep [0,1,7,8],.keepR []])],
 [],[],false⟩
noncomputable def OM:bU:=⟨[],[(0,[.str,(.int .i64),(.own (.int .i64) false),.bool])]⟩
noncomputable def K0:cn:=⟨44,aj Go.Proofs.Tryz.f114,[],
 [(1000000,[.cell 1000 2 (.int .i64) false])],
 [],
 [],[38],false⟩
noncomputable def HQ:bU:=⟨[],[(0,[.str,(.int .i64),(.own (.int .i64) false),.bool])]⟩
noncomputable def Dy:cn:=⟨74,aj Go.Proofs.Tryz.f115,[],
 [],
 [(0,[.keep [0,6,30,31],.cell 1000 2 (.int .i64) false,.keepR [1000]]),(2,[.keep [0,6,7,8,30,31,37,38],.cell 1000 2 (.int .i64) false,.keepR [1000]])],
 [],[],false⟩
noncomputable def OU:bU:=⟨[.one (.int .i64)],[]⟩
noncomputable def Ll:cn:=⟨25,aj Go.Proofs.Tryz.f117,[.tmp 2],
 [],
 [],
 [(4,[.keep [0,2],.keepR []]),(7,[.keep [0,2],.keepR []])],[],false⟩
noncomputable def Oi:bU:=⟨[.one .str],[]⟩
noncomputable def LH:cn:=⟨7,aj Go.Proofs.Tryz.f118,[.tmp 2],
 [],
 [],
 [],[],false⟩
noncomputable def Pg:bU:=⟨[.one .str],[]⟩
noncomputable def LA:cn:=⟨4,aj Go.Proofs.Tryz.f119,[.tmp 2],
 [],
 [],
 [],[],false⟩
noncomputable def Ph:bU:=⟨[.one .str],[]⟩
noncomputable def LD:cn:=⟨10,aj Go.Proofs.Tryz.f120,[.tmp 2],
 [],
 [],
 [],[],false⟩
noncomputable def N5:bU:=⟨[.one .str],[(0,[.str,.bool])]⟩
noncomputable def KO:cn:=⟨7,aj Go.Proofs.Tryz.f121,[.tmp 2],
 [],
 [],
 [],[],false⟩
noncomputable def Lh:bU:=⟨[.one (.int .i64)],[]⟩
noncomputable def Fb:cn:=⟨21,aj Go.Proofs.Tryz.f122,[.tmp 2],
 [],
 [(0,[.keep [0,3,4],.keepR []])],
 [],[],false⟩
noncomputable def N1:bU:=⟨[.one .bool],[]⟩
noncomputable def K7:cn:=⟨5,aj Go.Proofs.Tryz.f123,[.tmp 2],
 [],
 [],
 [],[],false⟩
noncomputable def LI:bU:=⟨[.one (.int .i64),.one (.int .i64),.one (.int .i64)],[]⟩
noncomputable def Hg:cn:=⟨63,aj Go.Proofs.Tryz.f124,[.tmp 4,.tmp 5,.tmp 6],
 [],
 [(0,[.keep [0,1,7,8],.keepR []])],
 [],[],false⟩
noncomputable def Po:bU:=⟨[.one .bool],[]⟩
noncomputable def KY:cn:=⟨14,aj Go.Proofs.Tryz.f125,[.tmp 4],
 [],
 [],
 [],[],false⟩
noncomputable def NW:bU:=⟨[.one .str],[]⟩
noncomputable def KT:cn:=⟨4,aj Go.Proofs.Tryz.f126,[.tmp 2],
 [],
 [],
 [],[],false⟩
noncomputable def Ox:bU:=⟨[.one .str],[]⟩
noncomputable def LF:cn:=⟨10,aj Go.Proofs.Tryz.f127,[.tmp 2],
 [],
 [],
 [],[],false⟩
noncomputable def PZ:bU:=⟨[.one .bool],[]⟩
noncomputable def Ly:cn:=⟨15,aj Go.Proofs.Tryz.f128,[.tmp 6],
 [],
 [],
 [],[],false⟩
noncomputable def KZ:bU:=⟨[.one (.own (.int .i64) false)],[]⟩
noncomputable def Ia:cn:=⟨27,aj Go.Proofs.Tryz.f129,[.tmp 4],
 [],
 [(0,[.keep [1,2,5,6],.own 5 (.int .i64) false,.keepR [2,2005]])],
 [],[],false⟩
noncomputable def Lr:bU:=⟨[.one (.int .i64)],[]⟩
noncomputable def FX:cn:=⟨126,aj Go.Proofs.Tryz.f133,[.tmp 6],
 [],
 [(1,[.keep [0,1,2,13],.keepR []])],
 [],[],false⟩
noncomputable def Lu:bU:=⟨[.one (.int .i64)],[]⟩
noncomputable def Fa:cn:=⟨27,aj Go.Proofs.Tryz.f134,[.tmp 6],
 [],
 [(0,[.keep [0,1,2,7],.keepR []])],
 [],[],false⟩
noncomputable def Pi:bU:=⟨[.one .str],[]⟩
noncomputable def KX:cn:=⟨7,aj Go.Proofs.Tryz.f135,[.tmp 2],
 [],
 [],
 [],[],false⟩
noncomputable def NZ:bU:=⟨[.one (.own (.int .i64) false),.one (.int .i64)],[]⟩
noncomputable def KR:cn:=⟨12,aj Go.Proofs.Tryz.f141,[.tmp 4,.tmp 5],
 [],
 [],
 [],[],false⟩
noncomputable def OP:bU:=⟨[.one .bool],[]⟩
noncomputable def Ln:cn:=⟨10,aj Go.Proofs.Tryz.f142,[.tmp 5],
 [],
 [],
 [],[],false⟩
noncomputable def OH:bU:=⟨[.one .bool],[]⟩
noncomputable def LM:cn:=⟨33,aj Go.Proofs.Tryz.f143,[.tmp 6],
 [],
 [(0,[.keep [0,1,2,12,13],.keepR []])],
 [],[],false⟩
noncomputable def GY:bU:=⟨[.one .bool],[]⟩
noncomputable def Db:cn:=⟨74,aj Go.Proofs.Tryz.f144,[.tmp 2],
 [],
 [(0,[.keep [1,19,20,21],.keepR [1]]),(2,[.keep [1,41,42,43],.keepR [1]])],
 [],[],false⟩
noncomputable def Pq:bU:=⟨[.one .bool],[]⟩
noncomputable def Lc:cn:=⟨24,aj Go.Proofs.Tryz.f145,[.tmp 4],
 [],
 [],
 [],[],false⟩
noncomputable def K1:bU:=⟨[.one (.int .i64)],[]⟩
noncomputable def Gu:cn:=⟨21,aj Go.Proofs.Tryz.f146,[.tmp 2],
 [],
 [(0,[.keep [0,5,6,7],.keepR []])],
 [],[],false⟩
noncomputable def La:bU:=⟨[.one .str,.one (.int .i64)],[]⟩
noncomputable def Hj:cn:=⟨24,aj Go.Proofs.Tryz.f147,[.tmp 2,.tmp 3],
 [],
 [(0,[.keep [0,4],.own 4 (.int .u8) false,.keepR [2004]])],
 [],[],false⟩
noncomputable def N4:bU:=⟨[.one (.int .i64)],[]⟩
noncomputable def K6:cn:=⟨6,aj Go.Proofs.Tryz.f148,[.tmp 2],
 [],
 [],
 [],[],false⟩
noncomputable def LN:bU:=⟨[.one (.int .i64)],[]⟩
noncomputable def E6:cn:=⟨18,aj Go.Proofs.Tryz.f149,[.tmp 2],
 [],
 [(0,[.keep [0,3],.keepR []])],
 [],[],false⟩
noncomputable def HK:bU:=⟨[.one .str],[]⟩
noncomputable def Dz:cn:=⟨45,aj Go.Proofs.Tryz.f150,[.tmp 4],
 [],
 [(0,[.keep [1,5,18,19,20],.own 5 .bool false,.keepR [2005]]),(2,[.keep [1,5,6,7,18,19,20,25,26],.own 5 .bool false,.keepR [2005]])],
 [],[],false⟩
noncomputable def Pn:bU:=⟨[.one (.int .i64),.one (.own .str false)],[(0,[.str,.bool])]⟩
noncomputable def KJ:cn:=⟨65,aj Go.Proofs.Tryz.f152,[.tmp 4,.tmp 5],
 [],
 [],
 [],[],false⟩
noncomputable def Ot:bU:=⟨[.one .bool],[]⟩
noncomputable def Lm:cn:=⟨9,aj Go.Proofs.Tryz.f155,[.tmp 2],
 [],
 [],
 [],[],false⟩
noncomputable def O6:bU:=⟨[.one .str],[(0,[.str,(.int .i64),(.own (.int .i64) false),.bool])]⟩
noncomputable def KL:cn:=⟨38,aj Go.Proofs.Tryz.f156,[.tmp 4],
 [],
 [],
 [],[],false⟩
noncomputable def DC:bU:=⟨[.one (.own (.int .i64) false)],[]⟩
noncomputable def zJ:cn:=⟨48,aj Go.Proofs.Tryz.f157,[.tmp 4],
 [],
 [(0,[.keep [7,8],.own 7 (.int .i64) false,.keepR [2007]])],
 [(3,[.keep [0,1],.keepR []]),(6,[.keep [0,6],.keepR []])],[],false⟩
noncomputable def Ol:bU:=⟨[.one .bool],[]⟩
noncomputable def LP:cn:=⟨14,aj Go.Proofs.Tryz.f158,[.tmp 4],
 [],
 [],
 [],[],false⟩
noncomputable def PD:bU:=⟨[.one .str],[]⟩
noncomputable def LO:bU:=⟨[.one (.own (.int .i64) false)],[]⟩
noncomputable def Ft:cn:=⟨32,aj Go.Proofs.Tryz.f172,[.tmp 4],
 [],
 [(0,[.keep [1,5,11,12,13],.own 5 (.int .i64) false,.keepR [2005]])],
 [],[],false⟩
noncomputable def O5:bU:=⟨[.one .bool],[]⟩
noncomputable def Lx:cn:=⟨36,aj Go.Proofs.Tryz.f173,[.tmp 4],
 [],
 [],
 [],[],false⟩
noncomputable def Oo:bU:=⟨[.one .bool],[]⟩
noncomputable def Lq:cn:=⟨12,aj Go.Proofs.Tryz.f174,[.tmp 3],
 [],
 [],
 [],[],false⟩
noncomputable def O9:bU:=⟨[.one .bool],[]⟩
noncomputable def KV:cn:=⟨9,aj Go.Proofs.Tryz.f175,[.tmp 4],
 [],
 [],
 [],[],false⟩
noncomputable def K3:bU:=⟨[.one .str],[]⟩
noncomputable def Ha:cn:=⟨31,aj Go.Proofs.Tryz.f176,[.tmp 2],
 [],
 [(0,[.keep [3,10,11,12],.own 3 (.int .u8) false,.keepR [2003]])],
 [],[],false⟩
noncomputable def PM:bU:=⟨[.one (.int .i64),.one (.own .str false)],[(0,[.str,.bool])]⟩
noncomputable def LS:cn:=⟨7,aj Go.Proofs.Tryz.f177,[.tmp 2,.tmp 3],
 [],
 [],
 [],[],false⟩
noncomputable def OF:bU:=⟨[.one (.int .u8)],[(0,[.str,.bool])]⟩
noncomputable def K5:cn:=⟨26,aj Go.Proofs.Tryz.f178,[.tmp 2],
 [],
 [],
 [],[],false⟩
noncomputable def OJ:bU:=⟨[.one (.int .i64),.one .str],[(0,[.str,.bool])]⟩
noncomputable def Lo:cn:=⟨47,aj Go.Proofs.Tryz.f179,[.tmp 4,.tmp 5],
 [],
 [],
 [],[],false⟩
noncomputable def PS:bU:=⟨[.one .str],[(0,[.str,.bool])]⟩
noncomputable def Lp:cn:=⟨42,aj Go.Proofs.Tryz.f180,[.tmp 4],
 [],
 [],
 [],[],false⟩
noncomputable def Ld:bU:=⟨[.one (.own .str false)],[(0,[.str,.bool])]⟩
noncomputable def HJ:cn:=⟨53,aj Go.Proofs.Tryz.f181,[.tmp 6],
 [],
 [(0,[.keep [0,1,2,7],.own 7 .str false,.keepR [1000,2007]])],
 [],[],false⟩
noncomputable def PI:bU:=⟨[.one (.int .u64),.one (.int .u64)],[]⟩
noncomputable def K8:cn:=⟨30,aj Go.Proofs.Tryz.f187,[.tmp 4,.tmp 5],
 [],
 [],
 [],[],false⟩
noncomputable def KG:bU:=⟨[.one (.int .i64)],[]⟩
noncomputable def FD:cn:=⟨19,aj Go.Proofs.Tryz.f192,[.tmp 4],
 [],
 [(0,[.keep [0,1,7,8],.keepR []])],
 [],[],false⟩
noncomputable def O0:bU:=⟨[.one .str,.one .str,.one .bool],[]⟩
noncomputable def Pm:bU:=⟨[.one (.int .u64),.one (.int .u64)],[]⟩
noncomputable def LJ:cn:=⟨51,aj Go.Proofs.Tryz.f198,[.tmp 4,.tmp 5],
 [],
 [],
 [],[],false⟩
noncomputable def QO:List (Nat×kh):=[
 (3,⟨false,1,8,[(.int .i64 0)],some .i64,false,none,0,[],0,[],false,false,false,false⟩),
 (4,⟨false,1,1,[(.bool false)],none,false,none,0,[],0,[],false,true,false,false⟩),
 (5,⟨false,1,1,[(.int .u8 0)],some .u8,false,none,0,[],0,[],false,false,false,false⟩),
 (9,⟨false,1,16,[(.str [])],none,true,none,0,[],0,[],false,false,false,false⟩),
 (23,⟨false,1,24,[.nils],none,false,some .str,9,[(.str [])],16,[],false,false,false,false⟩),
 (25,⟨false,1,24,[.nils],none,false,some .arr,27,[(.int .i64 0),(.int .i64 0),(.int .i64 0),(.str []),(.str []),(.str []),.nils],96,[],false,false,false,false⟩),
 (27,⟨true,7,96,[(.int .i64 0),(.int .i64 0),(.int .i64 0),(.str []),(.str []),(.str []),.nils],none,false,none,0,[],0,[(0,1,3),(1,1,3),(2,1,3),(3,1,9),(4,1,9),(5,1,9),(6,1,25)],false,false,false,false⟩),
 (30,⟨false,1,24,[.nils],none,false,some .node,58,[(.int .i64 0),(.int .i64 0),(.bool false)],24,[],false,false,false,false⟩),
 (32,⟨true,1,24,[.nils],none,false,none,0,[],0,[(0,1,30)],false,false,false,false⟩),
 (34,⟨false,1,8,[(.int .u64 0)],some .u64,false,none,0,[],0,[],false,false,false,false⟩),
 (40,⟨false,1,24,[.nils],none,false,some (.int .i64),3,[(.int .i64 0)],8,[],false,false,false,false⟩),
 (42,⟨true,3,72,[.nils,.nils,.nils],none,false,none,0,[],0,[(0,1,40),(1,1,40),(2,1,23)],false,false,false,false⟩),
 (55,⟨false,1,24,[.nils],none,false,some (.int .u8),5,[(.int .u8 0)],1,[],false,false,false,false⟩),
 (58,⟨true,3,24,[(.int .i64 0),(.int .i64 0),(.bool false)],none,false,none,0,[],0,[(0,1,3),(1,1,3),(2,1,4)],true,false,false,false⟩),
 (76,⟨false,1,24,[.nils],none,false,some (.list .str),23,[.nils],24,[],false,false,false,false⟩),
 (91,⟨true,2,32,[.nilp,.nils],none,false,none,0,[],0,[(0,1,89),(1,1,55)],false,false,true,false⟩),
 (93,⟨false,1,16,[.und],none,false,none,0,[],0,[],false,false,false,true⟩),
 (104,⟨true,2,24,[(.str []),(.bool false)],none,false,none,0,[],0,[(0,1,9),(1,1,4)],true,false,false,false⟩),
 (119,⟨false,1,4,[(.int .u32 0)],some .u32,false,none,0,[],0,[],false,false,false,false⟩),
 (131,⟨false,1,24,[.nils],none,false,some .bool,4,[(.bool false)],1,[],false,false,false,false⟩),
 (148,⟨false,1,8,[(.int .u64 0)],some .u64,false,none,0,[],0,[],false,false,false,false⟩),
 (153,⟨true,4,56,[(.str []),(.int .i64 0),.nils,(.bool false)],none,false,none,0,[],0,[(0,1,9),(1,1,3),(2,1,40),(3,1,4)],false,false,false,false⟩),
 (179,⟨true,2,24,[(.str []),(.bool false)],none,false,none,0,[],0,[(0,1,9),(1,1,4)],true,false,false,false⟩)]
noncomputable def PV:List (Nat×List PK):=[
 (4,[.agg [(.list .node)],.one (.int .i64),.agg [(.list (.int .i64)),(.list (.int .i64)),(.list .str)],.one .str]),
 (10,[.agg [(.list .node)],.one (.int .i64),.agg [(.list (.int .i64)),(.list (.int .i64)),(.list .str)],.one (.int .i64),.one (.list .str)]),
 (16,[.one (.int .i64)]),
 (17,[.agg [(.list .node)],.one (.int .i64),.one (.list .str)]),
 (20,[.one (.int .i64)]),
 (21,[.agg [(.list (.int .i64)),(.list (.int .i64)),(.list .str)]]),
 (22,[.agg [(.list .node)],.one (.int .i64),.agg [(.list (.int .i64)),(.list (.int .i64)),(.list .str)]]),
 (23,[.agg [(.list .node)],.one (.int .i64),.agg [(.list (.int .i64)),(.list (.int .i64)),(.list .str)]]),
 (24,[.agg [(.list .node)],.one (.int .i64),.one .str]),
 (25,[.agg [(.list .node)],.one (.int .i64),.one .str]),
 (26,[.agg [(.list (.int .i64)),(.list (.int .i64)),(.list .str)],.agg [(.list (.int .i64)),(.list (.int .i64)),(.list .str)]]),
 (27,[.agg [(.own (.int .i64) false),(.own (.int .i64) false),(.own .str false)]]),
 (28,[]),
 (29,[]),
 (30,[.one .str]),
 (31,[.one (.int .i64),.one (.int .i64)]),
 (32,[.agg [(.list .node)],.one (.int .i64),.agg [(.list (.int .i64)),(.list (.int .i64)),(.list .str)]]),
 (33,[.one (.list .str)]),
 (34,[.agg [(.list .node)],.one (.int .i64),.agg [(.list (.int .i64)),(.list (.int .i64)),(.list .str)],.one (.int .i64)]),
 (35,[.agg [(.list .node)],.one (.int .i64),.agg [(.list (.int .i64)),(.list (.int .i64)),(.list .str)],.one (.int .i64)]),
 (36,[.agg [(.list .node)],.one (.int .i64),.one (.list .str)]),
 (37,[.agg [(.list .node)],.one (.int .i64),.one (.list .str)]),
 (38,[.one (.list .str),.one (.list .str)]),
 (39,[.one (.own .str false)]),
 (40,[.one (.room .str),.one (.list .str)]),
 (41,[]),
 (46,[.one (.int .i64)]),
 (47,[.agg [(.list .node)],.one (.int .i64)]),
 (48,[.agg [(.list .node)],.one (.int .i64),.one .str]),
 (49,[.agg [(.list .node)],.one (.int .i64),.one (.list .str)]),
 (52,[.agg [(.list .node)],.one (.int .i64),.agg [(.list (.int .i64)),(.list (.int .i64)),(.list .str)]]),
 (53,[.agg [(.list .node)],.one (.int .i64)]),
 (54,[.one (.list (.int .i64)),.one (.int .i64)]),
 (55,[.bw 91,.one .str]),
 (56,[.one (.int .i64),.one (.int .i64)]),
 (57,[.one .str]),
 (58,[.one .str]),
 (59,[.br 91 5]),
 (60,[.agg [(.list .node)],.one (.int .i64)]),
 (61,[.one (.list (.int .i64)),.one (.int .i64)]),
 (62,[.one (.int .i64)]),
 (63,[.one .str]),
 (64,[.agg [(.list .node)],.one (.int .i64)]),
 (65,[.one .str]),
 (66,[.rw [.str,.bool]]),
 (67,[.one .str,.one (.int .i64),.one (.int .i64)]),
 (68,[.rw [.str,.bool],.one (.int .i64)]),
 (69,[.one (.int .u64)]),
 (70,[.one (.list (.int .i64)),.one (.int .i64)]),
 (71,[.rw [.str,.bool],.one (.int .i64)]),
 (72,[.agg [(.list .node)],.one (.int .i64)]),
 (73,[.one .str,.one (.int .i64),.one (.int .i64)]),
 (74,[.one .str,.one (.int .i64),.one (.int .i64)]),
 (75,[.one (.int .i64),.one .str,.one (.int .i64)]),
 (76,[.one (.list (.int .i64)),.one (.list (.int .i64))]),
 (77,[.one (.own (.int .i64) false)]),
 (78,[.agg [(.list .node)]]),
 (79,[.one (.list .str)]),
 (80,[.ro [(.list (.int .i64)),(.list (.int .i64)),(.list .str)],.one (.int .i64),.one (.int .i64)]),
 (81,[]),
 (86,[.one (.int .i64)]),
 (87,[.one .str]),
 (88,[.agg [(.list .node)],.one (.int .i64)]),
 (89,[.one (.int .i64)]),
 (90,[.one (.list .str)]),
 (91,[.one .str]),
 (92,[.one (.list .str)]),
 (93,[.agg [(.list .node)],.one (.int .i64)]),
 (94,[.one (.list .bool)]),
 (97,[.one (.list (.int .i64)),.one (.int .i64)]),
 (98,[]),
 (99,[.agg [(.list .node)],.one (.int .i64),.one .str]),
 (100,[.agg [(.list .node)],.one (.int .i64)]),
 (101,[.ro [(.list .node)],.one (.int .i64)]),
 (102,[.one (.list (.int .i64)),.one (.int .i64)]),
 (104,[.one .str]),
 (105,[.one .str]),
 (106,[.one (.list (.int .i64)),.one (.int .i64)]),
 (107,[.one (.int .i64)]),
 (108,[.one (.int .i64)]),
 (109,[.one (.list (.int .i64)),.one (.int .i64)]),
 (110,[.one .str]),
 (111,[.one (.int .i64)]),
 (112,[.one .str,.one (.int .i64),.one (.int .i64)]),
 (113,[.one .str,.one (.int .i64)]),
 (114,[.rw [.str,(.int .i64),(.own (.int .i64) false),.bool],.one (.int .i64),.one (.int .i64)]),
 (115,[.rw [.str,(.int .i64),(.own (.int .i64) false),.bool],.one (.int .i64),.one (.int .i64)]),
 (117,[.one (.int .u64)]),
 (118,[.one (.int .i64)]),
 (119,[.one .bool]),
 (120,[.one .str]),
 (121,[.rw [.str,.bool]]),
 (122,[.one .str]),
 (123,[.one (.int .i64)]),
 (124,[.one .str,.one (.int .i64)]),
 (125,[.one .str,.one (.int .i64)]),
 (126,[.one .bool]),
 (127,[.one .str]),
 (128,[.one (.int .i64),.one (.int .i64),.one (.int .i64)]),
 (129,[.agg [(.list .node)],.one (.int .i64)]),
 (133,[.one .str,.one (.int .i64),.one (.int .i64)]),
 (134,[.one .str,.one (.int .i64),.one (.int .u8)]),
 (135,[.one (.list .str)]),
 (141,[.agg [(.list .node)],.one (.int .i64)]),
 (142,[.one (.int .i64),.one .str,.ro [(.list .node)]]),
 (143,[.one (.list (.int .i64)),.one (.list .str),.fn]),
 (144,[.agg [(.list .node)]]),
 (145,[.one (.list (.int .i64)),.one (.int .i64)]),
 (146,[.one (.list (.int .i64))]),
 (147,[.one (.int .i64)]),
 (148,[.one (.int .i64)]),
 (149,[.one (.list (.int .i64))]),
 (150,[.one (.list (.int .i64)),.one (.int .i64)]),
 (152,[.rw [.str,.bool],.one (.int .i64)]),
 (155,[.one (.int .i64)]),
 (156,[.rw [.str,(.int .i64),(.own (.int .i64) false),.bool],.one (.int .i64)]),
 (157,[.one (.list (.int .i64)),.one (.int .i64)]),
 (158,[.one .str,.one (.int .i64)]),
 (159,[.one (.int .i64)]),
 (172,[.ro [(.list .node)],.one (.int .i64)]),
 (173,[.ro [(.list .node)],.one (.int .i64)]),
 (174,[.one (.int .i64),.ro [(.int .i64)]]),
 (175,[.one (.list (.int .i64)),.fn]),
 (176,[.one (.list .bool)]),
 (177,[.rw [.str,.bool]]),
 (178,[.rw [.str,.bool]]),
 (179,[.rw [.str,.bool],.one .str]),
 (180,[.rw [.str,.bool],.one (.int .i64)]),
 (181,[.rw [.str,.bool],.one (.int .u8),.one (.int .i64)]),
 (187,[.one (.int .u64),.one (.int .u64)]),
 (192,[.one (.list (.int .i64)),.fn]),
 (193,[.one .str,.one .str]),
 (198,[.one (.int .u64),.one (.int .u64)])]
noncomputable def QR:List (Nat×bU):=[(4,QQ),(10,P5),(16,Qx),(17,NU),(20,Qm),(21,Qz),(22,Nj),(23,Oz),(24,PQ),(25,Oh),(26,P8),(27,Qh),(28,QA),(29,Qk),(30,MH),(31,Qn),(32,Nq),(33,Qu),(34,Pz),(35,M6),(36,N9),(37,N8),(38,OV),(39,On),(40,QC),(41,P9),(46,OW),(47,Qf),(48,Of),(49,H9),(52,Py),(53,OT),(54,Qy),(56,Qi),(57,QG),(58,Nb),(60,MC),(61,IP),(62,Qd),(63,Qg),(64,Qq),(65,OS),(66,QH),(67,NC),(68,Qv),(69,Qe),(70,PE),(71,Qb),(72,QE),(73,Qr),(74,EO),(75,IS),(76,O4),(77,PW),(78,ON),(79,Qo),(80,M8),(81,P6),(86,M3),(87,LV),(88,QI),(89,Qp),(90,O1),(91,NX),(92,Qc),(93,Qw),(94,N7),(97,PX),(98,P4),(99,PO),(100,OR),(101,LR),(102,KW),(104,NR),(105,P0),(106,Ls),(107,LC),(108,Or),(109,FH),(110,Ov),(111,OC),(112,O3),(113,KP),(114,OM),(115,HQ),(117,OU),(118,Oi),(119,Pg),(120,Ph),(121,N5),(122,Lh),(123,N1),(124,LI),(125,Po),(126,NW),(127,Ox),(128,PZ),(129,KZ),(133,Lr),(134,Lu),(135,Pi),(141,NZ),(142,OP),(143,OH),(144,GY),(145,Pq),(146,K1),(147,La),(148,N4),(149,LN),(150,HK),(152,Pn),(155,Ot),(156,O6),(157,DC),(158,Ol),(159,PD),(172,LO),(173,O5),(174,Oo),(175,O9),(176,K3),(177,PM),(178,OF),(179,OJ),(180,PS),(181,Ld),(187,PI),(192,KG),(193,O0),(198,Pm)]
noncomputable def QP:List (Nat×cn):=[(4,QL),(10,PY),(16,NV),(17,Nr),(20,Pv),(21,Ob),(22,Jn),(23,NG),(24,MV),(25,L2),(26,Px),(27,OB),(28,O8),(29,OK),(30,JF),(31,OY),(32,J0),(33,N2),(34,Me),(35,JG),(36,L0),(37,NI),(38,MU),(39,MG),(40,Oq),(41,OG),(46,Ni),(47,Oy),(48,Nk),(49,EQ),(52,Nn),(53,Na),(54,N3),(56,Ou),(57,OD),(58,J2),(60,Ju),(61,Fo),(62,OZ),(63,OL),(64,PH),(65,M1),(66,PU),(67,IF),(68,OA),(69,Oc),(70,MB),(71,PR),(72,NQ),(73,PP),(74,Bi),(75,Gg),(76,M4),(77,Mc),(78,MZ),(79,PN),(80,JY),(81,OX),(86,KC),(87,JK),(88,OI),(89,O7),(90,Md),(91,MS),(92,OO),(93,OE),(94,LW),(97,MX),(98,PG),(99,ND),(100,LG),(101,HH),(102,FC),(104,KU),(106,HB),(107,GK),(108,KI),(109,Dl),(110,KN),(111,KH),(112,LU),(113,H7),(114,K0),(115,Dy),(117,Ll),(118,LH),(119,LA),(120,LD),(121,KO),(122,Fb),(123,K7),(124,Hg),(125,KY),(126,KT),(127,LF),(128,Ly),(129,Ia),(133,FX),(134,Fa),(135,KX),(141,KR),(142,Ln),(143,LM),(144,Db),(145,Lc),(146,Gu),(147,Hj),(148,K6),(149,E6),(150,Dz),(152,KJ),(155,Lm),(156,KL),(157,zJ),(158,LP),(172,Ft),(173,Lx),(174,Lq),(175,KV),(176,Ha),(177,LS),(178,K5),(179,Lo),(180,Lp),(181,HJ),(187,K8),(192,FD),(198,LJ)]
noncomputable def FP (f:FuncId):List PK:=match look f PV with|some l=>l|none=>[]
noncomputable def sr (f:FuncId):bU:=match look f QR with|some s=>s|none=>⟨[],[]⟩
noncomputable def Hh (f:FuncId)(args:List nG):Option (sr f).den:=
 if h:f=105 then h.symm ▸ (show Option (sr 105).den from we args) else
 if h:f=159 then h.symm ▸ (show Option (sr 159).den from vb args) else
 if h:f=193 then h.symm ▸ (show Option (sr 193).den from yE args) else
 none
noncomputable def E (bar:aC):f9:=⟨fun f=>look f QP,fun t=>look t QO,FP,sr,Hh,bar⟩
end Go.Proofs.YtjkokaockhecnaaGreatDoorA
