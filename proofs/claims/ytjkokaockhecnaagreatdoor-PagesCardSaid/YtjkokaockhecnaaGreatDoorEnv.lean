/- The functions, types, parameters and results of the program, as the machine is told of them: definitions alone. -/
import Derived.Test.YtjkokaockhecnaaGreatDoorProg
import Derived.Test.YtjkokaockhecnaaGreatDoorExt
namespace Go.Proofs.YtjkokaockhecnaaGreatDoorA
open Go
set_option linter.unusedVariables false
noncomputable def aw (f:Func):Code:=match f.body with|some c=>c|none=>.skip
noncomputable def O0:bR:=⟨[.one .bool],[]⟩
noncomputable def OU:cj:=⟨77,aw Go.Proofs.Tryz.f4,[.tmp 8],
 [],
 [],
 [],[],false⟩
noncomputable def OH:bR:=⟨[.one .str],[]⟩
noncomputable def MN:cj:=⟨7,aw Go.Proofs.Tryz.f16,[.tmp 2],
 [],
 [],
 [],[],false⟩
noncomputable def N4:bR:=⟨[.el .arr,.one (.int .i64)],[]⟩
noncomputable def Ld:cj:=⟨42,aw Go.Proofs.Tryz.f17,[.cell 6 27,.tmp 7],
 [],
 [(0,[.keep [1,2,3,6,8],.cell 6 6 .arr false,.keepR [3,6]])],
 [],[],false⟩
noncomputable def Og:bR:=⟨[.one (.int .i64)],[]⟩
noncomputable def Md:cj:=⟨4,aw Go.Proofs.Tryz.f20,[.tmp 2],
 [],
 [],
 [],[],false⟩
noncomputable def Oh:bR:=⟨[.el .col],[]⟩
noncomputable def Nv:cj:=⟨16,aw Go.Proofs.Tryz.f21,[.cell 2 42],
 [],
 [],
 [],[],false⟩
noncomputable def LO:bR:=⟨[.one .str,.one (.int .i64)],[]⟩
noncomputable def He:cj:=⟨75,aw Go.Proofs.Tryz.f22,[.tmp 6,.tmp 7],
 [],
 [(0,[.keep [5,11,12,13,45,46,47],.bself 13,.own 45 (.int .i64) false,.cell 13 1 (.int .u8) false,.keepR [5,13,2045]]),(2,[.keep [13,60,61,62],.bself 13,.cell 13 1 (.int .u8) false,.keepR [13]])],
 [],[],false⟩
noncomputable def MH:bR:=⟨[.one .str,.one (.int .i64)],[]⟩
noncomputable def LJ:cj:=⟨81,aw Go.Proofs.Tryz.f23,[.tmp 6,.tmp 7],
 [],
 [(0,[.keep [5,15,16],.keepR [5]])],
 [],[],false⟩
noncomputable def NE:bR:=⟨[.agg [(.own (.int .i64) false),(.own (.int .i64) false),(.own .str false)],.one (.int .i64)],[]⟩
noncomputable def K2:cj:=⟨134,aw Go.Proofs.Tryz.f24,[.cell 6 42,.tmp 7],
 [],
 [(0,[.keep [1,2,3,6,11,15,16,17,82,83],.cell 15 0 (.int .i64) false,.cell 15 1 (.int .i64) false,.cell 15 2 .str false,.cell 6 0 (.int .i64) false,.cell 6 1 (.int .i64) false,.cell 6 2 .str false,.keepR [3,6,15,48]])],
 [],[],false⟩
noncomputable def Nq:bR:=⟨[.el .col,.one (.int .i64)],[]⟩
noncomputable def K6:cj:=⟨182,aw Go.Proofs.Tryz.f25,[.cell 6 42,.tmp 7],
 [],
 [(0,[.keep [1,2,3,6,8,11,13,16,18,19,20,21],.own 18 (.int .i64) false,.own 19 (.int .i64) false,.cell 6 0 (.int .i64) false,.cell 6 1 (.int .i64) false,.cell 6 2 .str false,.keepR [3,6,2018,2019]])],
 [],[],false⟩
noncomputable def Oo:bR:=⟨[.one .bool],[]⟩
noncomputable def NH:cj:=⟨24,aw Go.Proofs.Tryz.f26,[.tmp 4],
 [],
 [],
 [],[],false⟩
noncomputable def Or:bR:=⟨[],[]⟩
noncomputable def MK:cj:=⟨11,aw Go.Proofs.Tryz.f27,[],
 [],
 [],
 [],[],false⟩
noncomputable def OA:bR:=⟨[.one .bool],[]⟩
noncomputable def Nl:cj:=⟨87,aw Go.Proofs.Tryz.f28,[.tmp 0],
 [],
 [],
 [],[23,32,40],false⟩
noncomputable def OO:bR:=⟨[.agg [(.own .node false)]],[]⟩
noncomputable def MS:cj:=⟨4,aw Go.Proofs.Tryz.f29,[.cell 0 32],
 [],
 [],
 [],[],false⟩
noncomputable def KD:bR:=⟨[.one (.int .i64)],[]⟩
noncomputable def Hw:cj:=⟨33,aw Go.Proofs.Tryz.f30,[.tmp 2],
 [],
 [(0,[.keep [0,3,4],.keepR []]),(2,[.keep [0,3,4,5],.keepR []])],
 [],[],false⟩
noncomputable def Oj:bR:=⟨[.one .str],[]⟩
noncomputable def Nu:cj:=⟨24,aw Go.Proofs.Tryz.f31,[.tmp 4],
 [],
 [(0,[.keep [0,1,5,6],.own 5 (.int .u8) false,.keepR [2005]])],
 [],[],false⟩
noncomputable def LP:bR:=⟨[.one .bool],[]⟩
noncomputable def IO:cj:=⟨116,aw Go.Proofs.Tryz.f32,[.tmp 6],
 [],
 [(0,[.keep [1,3,5,7,8,10,11],.keepR [3,5]]),(2,[.keep [1,3,5,10,12],.keepR [3,5]])],
 [],[],false⟩
noncomputable def NY:bR:=⟨[.one .bool],[]⟩
noncomputable def Ls:cj:=⟨26,aw Go.Proofs.Tryz.f38,[.tmp 4],
 [],
 [(0,[.keep [0,1,5],.keepR []])],
 [],[],false⟩
noncomputable def N5:bR:=⟨[],[]⟩
noncomputable def KQ:cj:=⟨17,aw Go.Proofs.Tryz.f39,[],
 [],
 [(0,[.keep [0,2],.own 0 .str false,.keepR [2000]])],
 [],[],false⟩
noncomputable def Ns:bR:=⟨[.one .str],[]⟩
noncomputable def LA:cj:=⟨22,aw Go.Proofs.Tryz.f46,[.tmp 2],
 [],
 [(0,[.keep [0,3],.keepR []])],
 [],[],false⟩
noncomputable def OG:bR:=⟨[.one .bool],[]⟩
noncomputable def MJ:cj:=⟨18,aw Go.Proofs.Tryz.f47,[.tmp 4],
 [],
 [],
 [],[],false⟩
noncomputable def NB:bR:=⟨[.one .bool],[]⟩
noncomputable def KB:cj:=⟨105,aw Go.Proofs.Tryz.f48,[.tmp 6],
 [],
 [(0,[.keep [3,8,9,11,13],.own 9 .str false,.own 11 (.int .i64) false,.keepR [3,2009,2011]])],
 [],[],false⟩
noncomputable def EM:bR:=⟨[.el .arr,.one .bool],[]⟩
noncomputable def CU:cj:=⟨222,aw Go.Proofs.Tryz.f49,[.cell 6 27,.tmp 7],
 [],
 [(0,[.keep [1,2,3,6,8,9,11,12,13],.own 9 (.int .i64) false,.own 12 .bool false,.cell 6 6 .arr false,.cell 8 6 .arr false,.keepR [3,6,8,40,2009,2012]]),(3,[.keep [1,2,3,6,8,9,11,12,13,14,15,18],.own 9 (.int .i64) false,.own 12 .bool false,.own 15 .str false,.cell 6 6 .arr false,.cell 8 6 .arr false,.keepR [3,6,8,40,2009,2012,2015]]),(6,[.keep [3,6,8,9,11,20],.own 9 (.int .i64) false,.cell 6 6 .arr false,.cell 8 6 .arr false,.keepR [3,6,8,40,2009]])],
 [(39,[.keep [3,6,8,9,11],.own 9 (.int .i64) false,.cell 6 6 .arr false,.cell 8 6 .arr false,.keepR [3,6,8,40,2009]])],[],false⟩
noncomputable def Ob:bR:=⟨[.one .bool],[]⟩
noncomputable def Lx:cj:=⟨78,aw Go.Proofs.Tryz.f52,[.tmp 6],
 [],
 [(0,[.keep [1,3,5,8,53,54,55],.keepR [3,5]])],
 [],[],false⟩
noncomputable def NU:bR:=⟨[.one (.int .i64),.one (.int .i64),.one (.int .i64)],[]⟩
noncomputable def Lh:cj:=⟨44,aw Go.Proofs.Tryz.f53,[.tmp 4,.tmp 5,.tmp 6],
 [],
 [(0,[.keep [2,7,8,16,17,18],.own 16 (.int .i64) false,.keepR [2,2016]])],
 [],[],false⟩
noncomputable def OI:bR:=⟨[.one .str],[]⟩
noncomputable def Nw:cj:=⟨16,aw Go.Proofs.Tryz.f54,[.tmp 4],
 [],
 [],
 [],[],false⟩
noncomputable def Oq:bR:=⟨[.one .str],[]⟩
noncomputable def NX:cj:=⟨25,aw Go.Proofs.Tryz.f56,[.tmp 4],
 [],
 [(0,[.keep [0,5,10,11],.own 5 (.int .u8) false,.keepR [2005]])],
 [],[],false⟩
noncomputable def OK:bR:=⟨[.one .str],[]⟩
noncomputable def M5:cj:=⟨45,aw Go.Proofs.Tryz.f57,[.tmp 2],
 [],
 [],
 [],[],false⟩
noncomputable def K5:bR:=⟨[.one (.int .i64)],[]⟩
noncomputable def Hr:cj:=⟨31,aw Go.Proofs.Tryz.f58,[.tmp 2],
 [],
 [(0,[.keep [0,3,7,8],.keepR []]),(2,[.keep [0,3,7,8,17],.keepR []])],
 [],[],false⟩
noncomputable def Kz:bR:=⟨[.one (.int .i64),.one (.int .i64),.one (.int .i64)],[]⟩
noncomputable def IZ:cj:=⟨42,aw Go.Proofs.Tryz.f60,[.tmp 4,.tmp 5,.tmp 6],
 [],
 [(0,[.keep [1,2,7,8],.keepR [2]])],
 [(8,[.keep [1,2,7,8],.keepR [2]])],[],false⟩
noncomputable def Ir:bR:=⟨[.one .str,.one (.int .i64)],[]⟩
noncomputable def GR:cj:=⟨118,aw Go.Proofs.Tryz.f61,[.tmp 4,.tmp 5],
 [],
 [(0,[.keep [0,1,6],.keepR []]),(2,[.keep [0,1,7,8],.keepR []]),(4,[.keep [0,1,7,8,12],.keepR []])],
 [],[],false⟩
noncomputable def OC:bR:=⟨[.one (.int .i64)],[]⟩
noncomputable def MZ:cj:=⟨11,aw Go.Proofs.Tryz.f62,[.tmp 2],
 [],
 [(0,[.keep [0,3],.keepR []])],
 [],[],false⟩
noncomputable def OD:bR:=⟨[.one .str],[]⟩
noncomputable def NZ:cj:=⟨32,aw Go.Proofs.Tryz.f63,[.tmp 2],
 [],
 [],
 [],[],false⟩
noncomputable def Ov:bR:=⟨[.one .bool],[]⟩
noncomputable def ML:cj:=⟨18,aw Go.Proofs.Tryz.f64,[.tmp 4],
 [],
 [],
 [],[],false⟩
noncomputable def M1:bR:=⟨[.one (.int .i64)],[]⟩
noncomputable def Lo:cj:=⟨22,aw Go.Proofs.Tryz.f65,[.tmp 2],
 [],
 [(0,[.keep [0,3,6,7],.keepR []])],
 [],[],false⟩
noncomputable def Ox:bR:=⟨[.one (.int .i64)],[(0,[.str,.bool])]⟩
noncomputable def LX:cj:=⟨27,aw Go.Proofs.Tryz.f66,[.tmp 2],
 [],
 [],
 [],[],false⟩
noncomputable def KP:bR:=⟨[.one (.own (.int .i64) false),.one (.int .i64)],[]⟩
noncomputable def H4:cj:=⟨136,aw Go.Proofs.Tryz.f67,[.tmp 6,.tmp 7],
 [],
 [(0,[.keep [0,1,2,8],.cell 32 2 (.int .i64) false,.keepR [32]])],
 [(12,[.keep [0,1,2,8,9],.cell 32 2 (.int .i64) false,.keepR [32]])],[],false⟩
noncomputable def Om:bR:=⟨[.one .str],[(0,[.str,.bool])]⟩
noncomputable def N3:cj:=⟨42,aw Go.Proofs.Tryz.f68,[.tmp 4],
 [],
 [],
 [],[],false⟩
noncomputable def On:bR:=⟨[.one (.int .i64)],[]⟩
noncomputable def MY:cj:=⟨8,aw Go.Proofs.Tryz.f69,[.tmp 2],
 [],
 [],
 [],[],false⟩
noncomputable def N2:bR:=⟨[.one (.int .i64)],[]⟩
noncomputable def Le:cj:=⟨21,aw Go.Proofs.Tryz.f70,[.tmp 4],
 [],
 [(0,[.keep [1,5,8,9,10],.keepR []])],
 [],[],false⟩
noncomputable def ON:bR:=⟨[.one .str],[(0,[.str,.bool])]⟩
noncomputable def NL:cj:=⟨22,aw Go.Proofs.Tryz.f71,[.tmp 4],
 [],
 [],
 [],[],false⟩
noncomputable def Ol:bR:=⟨[.one .bool],[]⟩
noncomputable def M4:cj:=⟨17,aw Go.Proofs.Tryz.f72,[.tmp 4],
 [],
 [],
 [],[],false⟩
noncomputable def Ot:bR:=⟨[.one (.int .i64),.one (.int .i64)],[]⟩
noncomputable def NS:cj:=⟨42,aw Go.Proofs.Tryz.f73,[.tmp 6,.tmp 7],
 [],
 [],
 [],[],false⟩
noncomputable def CO:bR:=⟨[.one (.own (.int .i64) false),.one (.int .i64)],[]⟩
noncomputable def A8:cj:=⟨149,aw Go.Proofs.Tryz.f74,[.tmp 6,.tmp 7],
 [],
 [(0,[.keep [0,1,2,8,9],.own 8 (.int .i64) false,.keepR [2008]]),(2,[.keep [0,1,2,8,10,11,13,14,15],.own 8 (.int .i64) false,.keepR [2008]]),(4,[.keep [0,1,2,8,10,11,13,14,15,16,17],.own 8 (.int .i64) false,.keepR [2008]])],
 [(13,[.keep [0,1,2,8,10,11,13,14],.own 8 (.int .i64) false,.keepR [2008]]),(21,[.keep [0,1,2,8,10,11,13,14,15,16],.own 8 (.int .i64) false,.keepR [2008]])],[],false⟩
noncomputable def II:bR:=⟨[.one (.own .str false),.one .bool],[]⟩
noncomputable def F9:cj:=⟨77,aw Go.Proofs.Tryz.f75,[.tmp 6,.tmp 7],
 [],
 [(0,[.keep [0,1,2,8,9,10],.own 8 .str false,.keepR [2008]])],
 [(9,[.keep [0,1,2,8,9,10,11],.own 8 .str false,.keepR [2008]]),(15,[.keep [0,1,2,8,9,10,11],.own 8 .str false,.keepR [2008]])],[],false⟩
noncomputable def Nb:bR:=⟨[.one .bool],[]⟩
noncomputable def KC:cj:=⟨26,aw Go.Proofs.Tryz.f76,[.tmp 4],
 [],
 [(0,[.keep [0,1,5],.keepR []])],
 [],[],false⟩
noncomputable def NJ:bR:=⟨[],[]⟩
noncomputable def Ly:cj:=⟨17,aw Go.Proofs.Tryz.f77,[],
 [],
 [(0,[.keep [0,2],.own 0 (.int .i64) false,.keepR [2000]])],
 [],[],false⟩
noncomputable def L0:bR:=⟨[.one .bool],[]⟩
noncomputable def LQ:cj:=⟨99,aw Go.Proofs.Tryz.f78,[.tmp 2],
 [],
 [(0,[.keep [1,3,4],.own 3 (.int .i64) false,.keepR [1,2003]])],
 [],[],false⟩
noncomputable def LM:bR:=⟨[.one .str],[]⟩
noncomputable def Hy:cj:=⟨37,aw Go.Proofs.Tryz.f86,[.tmp 2],
 [],
 [(0,[.keep [0,3,4],.own 4 (.int .u8) false,.keepR [2004]])],
 [(4,[.keep [0,3],.keepR []])],[],false⟩
noncomputable def KL:bR:=⟨[.one (.int .i64),.one (.own .str false),.one (.int .i64)],[]⟩
noncomputable def HD:cj:=⟨64,aw Go.Proofs.Tryz.f87,[.tmp 2,.tmp 3,.tmp 4],
 [],
 [(1,[.keep [0,5,6],.own 5 .str false,.keepR [2005]])],
 [(13,[.keep [0],.keepR []])],[],false⟩
noncomputable def OJ:bR:=⟨[.one (.own (.int .i64) false),.one (.int .i64)],[]⟩
noncomputable def NN:cj:=⟨13,aw Go.Proofs.Tryz.f88,[.tmp 4,.tmp 5],
 [],
 [],
 [],[],false⟩
noncomputable def OF:bR:=⟨[.one .bool],[]⟩
noncomputable def Na:cj:=⟨9,aw Go.Proofs.Tryz.f89,[.tmp 2],
 [],
 [],
 [],[],false⟩
noncomputable def Ni:bR:=⟨[.one .str],[]⟩
noncomputable def LH:cj:=⟨31,aw Go.Proofs.Tryz.f90,[.tmp 2],
 [],
 [(0,[.keep [0,3,4,5],.own 3 .bool false,.keepR [2003]])],
 [],[],false⟩
noncomputable def NT:bR:=⟨[.one (.int .i64),.one .bool],[]⟩
noncomputable def KR:cj:=⟨59,aw Go.Proofs.Tryz.f91,[.tmp 2,.tmp 3],
 [],
 [(0,[.keep [0,4,5],.keepR []])],
 [],[],false⟩
noncomputable def Oz:bR:=⟨[.one .str],[]⟩
noncomputable def NA:cj:=⟨18,aw Go.Proofs.Tryz.f92,[.tmp 2],
 [],
 [(0,[.keep [0,3,4],.keepR []])],
 [],[],false⟩
noncomputable def OL:bR:=⟨[.one .str],[]⟩
noncomputable def Me:cj:=⟨52,aw Go.Proofs.Tryz.f93,[.tmp 4],
 [],
 [(1,[.keep [2,5,7,8],.own 5 (.int .i64) false,.own 7 .str false,.keepR [2,2005,2007]])],
 [],[],false⟩
noncomputable def Nj:bR:=⟨[.one .str],[]⟩
noncomputable def La:cj:=⟨34,aw Go.Proofs.Tryz.f94,[.tmp 2],
 [],
 [(0,[.keep [0,3,4],.own 3 (.int .u8) false,.keepR [2003]])],
 [],[],false⟩
noncomputable def MI:bR:=⟨[.one .bool],[]⟩
noncomputable def LI:cj:=⟨21,aw Go.Proofs.Tryz.f97,[.tmp 4],
 [],
 [(0,[.keep [1,7,8,9],.keepR []])],
 [],[],false⟩
noncomputable def Oi:bR:=⟨[.one .str],[]⟩
noncomputable def NK:cj:=⟨1,aw Go.Proofs.Tryz.f98,[.tmp 0],
 [],
 [],
 [],[],false⟩
noncomputable def Nx:bR:=⟨[.one .bool],[]⟩
noncomputable def Lr:cj:=⟨91,aw Go.Proofs.Tryz.f99,[.tmp 6],
 [],
 [(1,[.keep [7,8,11,13,70,71,72],.view 8 .str,.own 11 (.int .i64) false,.view 70 .str,.keepR [3,2011]])],
 [],[],false⟩
noncomputable def NM:bR:=⟨[.one .bool],[]⟩
noncomputable def JI:cj:=⟨18,aw Go.Proofs.Tryz.f100,[.tmp 4],
 [],
 [],
 [],[],false⟩
noncomputable def J8:bR:=⟨[.one (.own (.int .i64) false)],[]⟩
noncomputable def Ec:cj:=⟨21,aw Go.Proofs.Tryz.f101,[.tmp 4],
 [],
 [(0,[.keep [0,1,5],.own 5 (.int .i64) false,.keepR [2005]])],
 [],[],false⟩
noncomputable def Jh:bR:=⟨[.one .str,.one (.int .i64)],[]⟩
noncomputable def Ee:cj:=⟨62,aw Go.Proofs.Tryz.f102,[.tmp 4,.tmp 5],
 [],
 [(0,[.keep [0,1,6],.bself 6,.cell 6 1 (.int .u8) false,.keepR [6]])],
 [],[],false⟩
noncomputable def ND:bR:=⟨[.one (.int .i64),.one (.own .str false),.one (.int .i64)],[]⟩
noncomputable def Kv:cj:=⟨32,aw Go.Proofs.Tryz.f104,[.tmp 2,.tmp 3,.tmp 4],
 [],
 [],
 [],[],false⟩
noncomputable def L6:bR:=⟨[.one (.int .i64),.one .err],[]⟩
noncomputable def Jp:bR:=⟨[.one (.int .i64)],[]⟩
noncomputable def Fo:cj:=⟨28,aw Go.Proofs.Tryz.f106,[.tmp 4],
 [],
 [(0,[.keep [0,1,5],.keepR []])],
 [],[],false⟩
noncomputable def Jg:bR:=⟨[.one .str,.one (.int .i64)],[]⟩
noncomputable def G0:cj:=⟨26,aw Go.Proofs.Tryz.f107,[.tmp 2,.tmp 3],
 [],
 [(0,[.keep [0,4],.own 4 (.int .u8) false,.keepR [2004]])],
 [],[],false⟩
noncomputable def MP:bR:=⟨[.one (.int .i64)],[]⟩
noncomputable def Jv:cj:=⟨6,aw Go.Proofs.Tryz.f108,[.tmp 2],
 [],
 [],
 [],[],false⟩
noncomputable def GE:bR:=⟨[.one .str],[]⟩
noncomputable def BI:cj:=⟨41,aw Go.Proofs.Tryz.f109,[.tmp 4],
 [],
 [(0,[.keep [0,1,5,6],.own 5 .bool false,.keepR [2005]]),(2,[.keep [0,1,5,6,7],.own 5 .bool false,.keepR [2005]])],
 [],[],false⟩
noncomputable def MV:bR:=⟨[.one .str],[]⟩
noncomputable def Jt:cj:=⟨16,aw Go.Proofs.Tryz.f110,[.tmp 2],
 [],
 [],
 [],[7,10],false⟩
noncomputable def Nk:bR:=⟨[.one .bool],[]⟩
noncomputable def J5:cj:=⟨9,aw Go.Proofs.Tryz.f111,[.tmp 2],
 [],
 [],
 [],[],false⟩
noncomputable def MD:bR:=⟨[.one (.int .i64),.one (.int .i64)],[]⟩
noncomputable def Jy:cj:=⟨48,aw Go.Proofs.Tryz.f112,[.tmp 6,.tmp 7],
 [],
 [],
 [],[],false⟩
noncomputable def Kp:bR:=⟨[.one (.int .i64),.one (.int .i64),.one (.int .i64)],[]⟩
noncomputable def GO:cj:=⟨70,aw Go.Proofs.Tryz.f113,[.tmp 4,.tmp 5,.tmp 6],
 [],
 [(0,[.keep [0,1,7,8],.keepR []])],
 [],[],false⟩
noncomputable def LY:bR:=⟨[],[(0,[.str,(.int .i64),(.own (.int .i64) false),.bool])]⟩
noncomputable def Jn:cj:=⟨44,aw Go.Proofs.Tryz.f114,[],
 [(1000000,[.cell 1000 2 (.int .i64) false])],
 [],
 [],[38],false⟩
noncomputable def EC:bR:=⟨[],[(0,[.str,(.int .i64),(.own (.int .i64) false),.bool])]⟩
noncomputable def Br:cj:=⟨74,aw Go.Proofs.Tryz.f115,[],
 [],
 [(0,[.keep [0,6,30,31],.cell 1000 2 (.int .i64) false,.keepR [1000]]),(2,[.keep [0,6,7,8,30,31,37,38],.cell 1000 2 (.int .i64) false,.keepR [1000]])],
 [],[],false⟩
noncomputable def L1:bR:=⟨[.one (.int .i64)],[]⟩
noncomputable def Jj:cj:=⟨25,aw Go.Proofs.Tryz.f117,[.tmp 2],
 [],
 [],
 [(4,[.keep [0,2],.keepR []]),(7,[.keep [0,2],.keepR []])],[],false⟩
noncomputable def MA:bR:=⟨[.one .str],[]⟩
noncomputable def JD:cj:=⟨7,aw Go.Proofs.Tryz.f118,[.tmp 2],
 [],
 [],
 [],[],false⟩
noncomputable def N6:bR:=⟨[.one .str],[]⟩
noncomputable def Jk:cj:=⟨4,aw Go.Proofs.Tryz.f119,[.tmp 2],
 [],
 [],
 [],[],false⟩
noncomputable def M3:bR:=⟨[.one .str],[]⟩
noncomputable def JJ:cj:=⟨10,aw Go.Proofs.Tryz.f120,[.tmp 2],
 [],
 [],
 [],[],false⟩
noncomputable def NR:bR:=⟨[.one .str],[(0,[.str,.bool])]⟩
noncomputable def Jm:cj:=⟨7,aw Go.Proofs.Tryz.f121,[.tmp 2],
 [],
 [],
 [],[],false⟩
noncomputable def J9:bR:=⟨[.one (.int .i64)],[]⟩
noncomputable def E9:cj:=⟨21,aw Go.Proofs.Tryz.f122,[.tmp 2],
 [],
 [(0,[.keep [0,3,4],.keepR []])],
 [],[],false⟩
noncomputable def NI:bR:=⟨[.one .bool],[]⟩
noncomputable def JL:cj:=⟨5,aw Go.Proofs.Tryz.f123,[.tmp 2],
 [],
 [],
 [],[],false⟩
noncomputable def Jx:bR:=⟨[.one (.int .i64),.one (.int .i64),.one (.int .i64)],[]⟩
noncomputable def Gm:cj:=⟨63,aw Go.Proofs.Tryz.f124,[.tmp 4,.tmp 5,.tmp 6],
 [],
 [(0,[.keep [0,1,7,8],.keepR []])],
 [],[],false⟩
noncomputable def NV:bR:=⟨[.one .bool],[]⟩
noncomputable def Ko:cj:=⟨14,aw Go.Proofs.Tryz.f125,[.tmp 4],
 [],
 [],
 [],[],false⟩
noncomputable def MU:bR:=⟨[.one .str],[]⟩
noncomputable def Jo:cj:=⟨4,aw Go.Proofs.Tryz.f126,[.tmp 2],
 [],
 [],
 [],[],false⟩
noncomputable def Nn:bR:=⟨[.one .str],[]⟩
noncomputable def JV:cj:=⟨10,aw Go.Proofs.Tryz.f127,[.tmp 2],
 [],
 [],
 [],[],false⟩
noncomputable def Mc:bR:=⟨[.one .bool],[]⟩
noncomputable def JC:cj:=⟨15,aw Go.Proofs.Tryz.f128,[.tmp 6],
 [],
 [],
 [],[],false⟩
noncomputable def JP:bR:=⟨[.one (.own (.int .i64) false)],[]⟩
noncomputable def Ek:cj:=⟨27,aw Go.Proofs.Tryz.f129,[.tmp 4],
 [],
 [(0,[.keep [1,2,5,6],.own 5 (.int .i64) false,.keepR [2,2005]])],
 [],[],false⟩
noncomputable def Kr:bR:=⟨[.one (.int .i64)],[]⟩
noncomputable def FZ:cj:=⟨126,aw Go.Proofs.Tryz.f133,[.tmp 6],
 [],
 [(1,[.keep [0,1,2,13],.keepR []])],
 [],[],false⟩
noncomputable def J6:bR:=⟨[.one (.int .i64)],[]⟩
noncomputable def GT:cj:=⟨27,aw Go.Proofs.Tryz.f134,[.tmp 6],
 [],
 [(0,[.keep [0,1,2,7],.keepR []])],
 [],[],false⟩
noncomputable def Nc:bR:=⟨[.one .str],[]⟩
noncomputable def Jz:cj:=⟨7,aw Go.Proofs.Tryz.f135,[.tmp 2],
 [],
 [],
 [],[],false⟩
noncomputable def MR:bR:=⟨[.one (.own (.int .i64) false),.one (.int .i64)],[]⟩
noncomputable def JB:cj:=⟨12,aw Go.Proofs.Tryz.f141,[.tmp 4,.tmp 5],
 [],
 [],
 [],[],false⟩
noncomputable def MQ:bR:=⟨[.one .bool],[]⟩
noncomputable def Ks:cj:=⟨10,aw Go.Proofs.Tryz.f142,[.tmp 5],
 [],
 [],
 [],[],false⟩
noncomputable def NF:bR:=⟨[.one .bool],[]⟩
noncomputable def JX:cj:=⟨33,aw Go.Proofs.Tryz.f143,[.tmp 6],
 [],
 [(0,[.keep [0,1,2,12,13],.keepR []])],
 [],[],false⟩
noncomputable def Ge:bR:=⟨[.one .bool],[]⟩
noncomputable def BW:cj:=⟨74,aw Go.Proofs.Tryz.f144,[.tmp 2],
 [],
 [(0,[.keep [1,19,20,21],.keepR [1]]),(2,[.keep [1,41,42,43],.keepR [1]])],
 [],[],false⟩
noncomputable def NQ:bR:=⟨[.one .bool],[]⟩
noncomputable def J1:cj:=⟨24,aw Go.Proofs.Tryz.f145,[.tmp 4],
 [],
 [],
 [],[],false⟩
noncomputable def Kt:bR:=⟨[.one (.int .i64)],[]⟩
noncomputable def F2:cj:=⟨21,aw Go.Proofs.Tryz.f146,[.tmp 2],
 [],
 [(0,[.keep [0,5,6,7],.keepR []])],
 [],[],false⟩
noncomputable def J7:bR:=⟨[.one .str,.one (.int .i64)],[]⟩
noncomputable def EO:cj:=⟨24,aw Go.Proofs.Tryz.f147,[.tmp 2,.tmp 3],
 [],
 [(0,[.keep [0,4],.own 4 (.int .u8) false,.keepR [2004]])],
 [],[],false⟩
noncomputable def M9:bR:=⟨[.one (.int .i64)],[]⟩
noncomputable def JO:cj:=⟨6,aw Go.Proofs.Tryz.f148,[.tmp 2],
 [],
 [],
 [],[],false⟩
noncomputable def Jl:bR:=⟨[.one (.int .i64)],[]⟩
noncomputable def FO:cj:=⟨18,aw Go.Proofs.Tryz.f149,[.tmp 2],
 [],
 [(0,[.keep [0,3],.keepR []])],
 [],[],false⟩
noncomputable def Ff:bR:=⟨[.one .str],[]⟩
noncomputable def Bz:cj:=⟨45,aw Go.Proofs.Tryz.f150,[.tmp 4],
 [],
 [(0,[.keep [1,5,18,19,20],.own 5 .bool false,.keepR [2005]]),(2,[.keep [1,5,6,7,18,19,20,25,26],.own 5 .bool false,.keepR [2005]])],
 [],[],false⟩
noncomputable def ME:bR:=⟨[.one (.int .i64),.one (.own .str false)],[(0,[.str,.bool])]⟩
noncomputable def JG:cj:=⟨65,aw Go.Proofs.Tryz.f152,[.tmp 4,.tmp 5],
 [],
 [],
 [],[],false⟩
noncomputable def MG:bR:=⟨[.one .bool],[]⟩
noncomputable def J2:cj:=⟨9,aw Go.Proofs.Tryz.f155,[.tmp 2],
 [],
 [],
 [],[],false⟩
noncomputable def MO:bR:=⟨[.one .str],[(0,[.str,(.int .i64),(.own (.int .i64) false),.bool])]⟩
noncomputable def JE:cj:=⟨38,aw Go.Proofs.Tryz.f156,[.tmp 4],
 [],
 [],
 [],[],false⟩
noncomputable def Bg:bR:=⟨[.one (.own (.int .i64) false)],[]⟩
noncomputable def yC:cj:=⟨48,aw Go.Proofs.Tryz.f157,[.tmp 4],
 [],
 [(0,[.keep [7,8],.own 7 (.int .i64) false,.keepR [2007]])],
 [(3,[.keep [0,1],.keepR []]),(6,[.keep [0,6],.keepR []])],[],false⟩
noncomputable def L9:bR:=⟨[.one .bool],[]⟩
noncomputable def JW:cj:=⟨14,aw Go.Proofs.Tryz.f158,[.tmp 4],
 [],
 [],
 [],[],false⟩
noncomputable def M8:bR:=⟨[.one .str],[]⟩
noncomputable def JM:bR:=⟨[.one (.own (.int .i64) false)],[]⟩
noncomputable def F3:cj:=⟨32,aw Go.Proofs.Tryz.f172,[.tmp 4],
 [],
 [(0,[.keep [1,5,11,12,13],.own 5 (.int .i64) false,.keepR [2005]])],
 [],[],false⟩
noncomputable def MB:bR:=⟨[.one .bool],[]⟩
noncomputable def Jr:cj:=⟨36,aw Go.Proofs.Tryz.f173,[.tmp 4],
 [],
 [],
 [],[],false⟩
noncomputable def N8:bR:=⟨[.one .bool],[]⟩
noncomputable def JH:cj:=⟨12,aw Go.Proofs.Tryz.f174,[.tmp 3],
 [],
 [],
 [],[],false⟩
noncomputable def L2:bR:=⟨[.one .bool],[]⟩
noncomputable def JA:cj:=⟨9,aw Go.Proofs.Tryz.f175,[.tmp 4],
 [],
 [],
 [],[],false⟩
noncomputable def JK:bR:=⟨[.one .str],[]⟩
noncomputable def FC:cj:=⟨31,aw Go.Proofs.Tryz.f176,[.tmp 2],
 [],
 [(0,[.keep [3,10,11,12],.own 3 (.int .u8) false,.keepR [2003]])],
 [],[],false⟩
noncomputable def MX:bR:=⟨[.one (.int .i64),.one (.own .str false)],[(0,[.str,.bool])]⟩
noncomputable def Ji:cj:=⟨7,aw Go.Proofs.Tryz.f177,[.tmp 2,.tmp 3],
 [],
 [],
 [],[],false⟩
noncomputable def N1:bR:=⟨[.one (.int .u8)],[(0,[.str,.bool])]⟩
noncomputable def J3:cj:=⟨26,aw Go.Proofs.Tryz.f178,[.tmp 2],
 [],
 [],
 [],[],false⟩
noncomputable def NC:bR:=⟨[.one (.int .i64),.one .str],[(0,[.str,.bool])]⟩
noncomputable def JQ:cj:=⟨47,aw Go.Proofs.Tryz.f179,[.tmp 4,.tmp 5],
 [],
 [],
 [],[],false⟩
noncomputable def NP:bR:=⟨[.one .str],[(0,[.str,.bool])]⟩
noncomputable def Jw:cj:=⟨42,aw Go.Proofs.Tryz.f180,[.tmp 4],
 [],
 [],
 [],[],false⟩
noncomputable def JS:bR:=⟨[.one (.own .str false)],[(0,[.str,.bool])]⟩
noncomputable def Eu:cj:=⟨53,aw Go.Proofs.Tryz.f181,[.tmp 6],
 [],
 [(0,[.keep [0,1,2,7],.own 7 .str false,.keepR [1000,2007]])],
 [],[],false⟩
noncomputable def MF:bR:=⟨[.one (.int .u64),.one (.int .u64)],[]⟩
noncomputable def J4:cj:=⟨30,aw Go.Proofs.Tryz.f187,[.tmp 4,.tmp 5],
 [],
 [],
 [],[],false⟩
noncomputable def Kq:bR:=⟨[.one (.int .i64)],[]⟩
noncomputable def FQ:cj:=⟨19,aw Go.Proofs.Tryz.f192,[.tmp 4],
 [],
 [(0,[.keep [0,1,7,8],.keepR []])],
 [],[],false⟩
noncomputable def N7:bR:=⟨[.one .str,.one .str,.one .bool],[]⟩
noncomputable def MM:bR:=⟨[.one (.int .u64),.one (.int .u64)],[]⟩
noncomputable def JR:cj:=⟨51,aw Go.Proofs.Tryz.f198,[.tmp 4,.tmp 5],
 [],
 [],
 [],[],false⟩
noncomputable def OX:List (Nat×jJ):=[
 (3,⟨false,1,8,[(.int .i64 0)],some .i64,false,none,0,[],0,[],false,false,false,false⟩),
 (4,⟨false,1,1,[(.bool false)],none,false,none,0,[],0,[],false,true,false,false⟩),
 (5,⟨false,1,1,[(.int .u8 0)],some .u8,false,none,0,[],0,[],false,false,false,false⟩),
 (9,⟨false,1,16,[(.str [])],none,true,none,0,[],0,[],false,false,false,false⟩),
 (23,⟨false,1,24,[.nils],none,false,some .str,9,[(.str [])],16,[],false,false,false,false⟩),
 (25,⟨false,1,24,[.nils],none,false,some .arr,27,[(.int .i64 0),(.int .i64 0),(.int .i64 0),(.str []),(.str []),(.str []),.nils],96,[],false,false,false,false⟩),
 (27,⟨true,7,96,[(.int .i64 0),(.int .i64 0),(.int .i64 0),(.str []),(.str []),(.str []),.nils],none,false,none,0,[],0,[(0,1,3),(1,1,3),(2,1,3),(3,1,9),(4,1,9),(5,1,9),(6,1,25)],false,false,false,false⟩),
 (30,⟨false,1,24,[.nils],none,false,some .node,58,[(.int .i64 0),(.int .i64 0),(.bool false)],24,[],false,false,false,false⟩),
 (32,⟨true,1,24,[.nils],none,false,none,0,[],0,[(0,1,30)],false,false,false,false⟩),
 (34,⟨false,1,8,[(.int .u64 0)],some .u64,false,none,0,[],0,[],false,false,false,false⟩),
 (40,⟨false,1,24,[.nils],none,false,some (.int .i64),3,[(.int .i64 0)],8,[],false,false,false,false⟩),
 (42,⟨true,3,72,[.nils,.nils,.nils],none,false,none,0,[],0,[(0,1,40),(1,1,40),(2,1,23)],false,false,false,false⟩),
 (55,⟨false,1,24,[.nils],none,false,some (.int .u8),5,[(.int .u8 0)],1,[],false,false,false,false⟩),
 (58,⟨true,3,24,[(.int .i64 0),(.int .i64 0),(.bool false)],none,false,none,0,[],0,[(0,1,3),(1,1,3),(2,1,4)],true,false,false,false⟩),
 (76,⟨false,1,24,[.nils],none,false,some (.list .str),23,[.nils],24,[],false,false,false,false⟩),
 (91,⟨true,2,32,[.nilp,.nils],none,false,none,0,[],0,[(0,1,89),(1,1,55)],false,false,true,false⟩),
 (93,⟨false,1,16,[.und],none,false,none,0,[],0,[],false,false,false,true⟩),
 (104,⟨true,2,24,[(.str []),(.bool false)],none,false,none,0,[],0,[(0,1,9),(1,1,4)],true,false,false,false⟩),
 (119,⟨false,1,4,[(.int .u32 0)],some .u32,false,none,0,[],0,[],false,false,false,false⟩),
 (131,⟨false,1,24,[.nils],none,false,some .bool,4,[(.bool false)],1,[],false,false,false,false⟩),
 (148,⟨false,1,8,[(.int .u64 0)],some .u64,false,none,0,[],0,[],false,false,false,false⟩),
 (153,⟨true,4,56,[(.str []),(.int .i64 0),.nils,(.bool false)],none,false,none,0,[],0,[(0,1,9),(1,1,3),(2,1,40),(3,1,4)],false,false,false,false⟩),
 (179,⟨true,2,24,[(.str []),(.bool false)],none,false,none,0,[],0,[(0,1,9),(1,1,4)],true,false,false,false⟩)]
noncomputable def Nz:List (Nat×List PK):=[
 (4,[.agg [(.list .node)],.one (.int .i64),.agg [(.list (.int .i64)),(.list (.int .i64)),(.list .str)],.one .str]),
 (16,[.one (.int .i64)]),
 (17,[.agg [(.list .node)],.one (.int .i64),.one (.list .str)]),
 (20,[.one (.int .i64)]),
 (21,[.agg [(.list (.int .i64)),(.list (.int .i64)),(.list .str)]]),
 (22,[.agg [(.list .node)],.one (.int .i64),.agg [(.list (.int .i64)),(.list (.int .i64)),(.list .str)]]),
 (23,[.agg [(.list .node)],.one (.int .i64),.agg [(.list (.int .i64)),(.list (.int .i64)),(.list .str)]]),
 (24,[.agg [(.list .node)],.one (.int .i64),.one .str]),
 (25,[.agg [(.list .node)],.one (.int .i64),.one .str]),
 (26,[.agg [(.list (.int .i64)),(.list (.int .i64)),(.list .str)],.agg [(.list (.int .i64)),(.list (.int .i64)),(.list .str)]]),
 (27,[.agg [(.own (.int .i64) false),(.own (.int .i64) false),(.own .str false)]]),
 (28,[]),
 (29,[]),
 (30,[.one .str]),
 (31,[.one (.int .i64),.one (.int .i64)]),
 (32,[.agg [(.list .node)],.one (.int .i64),.agg [(.list (.int .i64)),(.list (.int .i64)),(.list .str)]]),
 (38,[.one (.list .str),.one (.list .str)]),
 (39,[.one (.own .str false)]),
 (46,[.one (.int .i64)]),
 (47,[.agg [(.list .node)],.one (.int .i64)]),
 (48,[.agg [(.list .node)],.one (.int .i64),.one .str]),
 (49,[.agg [(.list .node)],.one (.int .i64),.one (.list .str)]),
 (52,[.agg [(.list .node)],.one (.int .i64),.agg [(.list (.int .i64)),(.list (.int .i64)),(.list .str)]]),
 (53,[.agg [(.list .node)],.one (.int .i64)]),
 (54,[.one (.list (.int .i64)),.one (.int .i64)]),
 (55,[.bw 91,.one .str]),
 (56,[.one (.int .i64),.one (.int .i64)]),
 (57,[.one .str]),
 (58,[.one .str]),
 (59,[.br 91 5]),
 (60,[.agg [(.list .node)],.one (.int .i64)]),
 (61,[.one (.list (.int .i64)),.one (.int .i64)]),
 (62,[.one (.int .i64)]),
 (63,[.one .str]),
 (64,[.agg [(.list .node)],.one (.int .i64)]),
 (65,[.one .str]),
 (66,[.rw [.str,.bool]]),
 (67,[.one .str,.one (.int .i64),.one (.int .i64)]),
 (68,[.rw [.str,.bool],.one (.int .i64)]),
 (69,[.one (.int .u64)]),
 (70,[.one (.list (.int .i64)),.one (.int .i64)]),
 (71,[.rw [.str,.bool],.one (.int .i64)]),
 (72,[.agg [(.list .node)],.one (.int .i64)]),
 (73,[.one .str,.one (.int .i64),.one (.int .i64)]),
 (74,[.one .str,.one (.int .i64),.one (.int .i64)]),
 (75,[.one (.int .i64),.one .str,.one (.int .i64)]),
 (76,[.one (.list (.int .i64)),.one (.list (.int .i64))]),
 (77,[.one (.own (.int .i64) false)]),
 (78,[.agg [(.list .node)]]),
 (86,[.one (.int .i64)]),
 (87,[.one .str]),
 (88,[.agg [(.list .node)],.one (.int .i64)]),
 (89,[.one (.int .i64)]),
 (90,[.one (.list .str)]),
 (91,[.one .str]),
 (92,[.one (.list .str)]),
 (93,[.agg [(.list .node)],.one (.int .i64)]),
 (94,[.one (.list .bool)]),
 (97,[.one (.list (.int .i64)),.one (.int .i64)]),
 (98,[]),
 (99,[.agg [(.list .node)],.one (.int .i64),.one .str]),
 (100,[.agg [(.list .node)],.one (.int .i64)]),
 (101,[.ro [(.list .node)],.one (.int .i64)]),
 (102,[.one (.list (.int .i64)),.one (.int .i64)]),
 (104,[.one .str]),
 (105,[.one .str]),
 (106,[.one (.list (.int .i64)),.one (.int .i64)]),
 (107,[.one (.int .i64)]),
 (108,[.one (.int .i64)]),
 (109,[.one (.list (.int .i64)),.one (.int .i64)]),
 (110,[.one .str]),
 (111,[.one (.int .i64)]),
 (112,[.one .str,.one (.int .i64),.one (.int .i64)]),
 (113,[.one .str,.one (.int .i64)]),
 (114,[.rw [.str,(.int .i64),(.own (.int .i64) false),.bool],.one (.int .i64),.one (.int .i64)]),
 (115,[.rw [.str,(.int .i64),(.own (.int .i64) false),.bool],.one (.int .i64),.one (.int .i64)]),
 (117,[.one (.int .u64)]),
 (118,[.one (.int .i64)]),
 (119,[.one .bool]),
 (120,[.one .str]),
 (121,[.rw [.str,.bool]]),
 (122,[.one .str]),
 (123,[.one (.int .i64)]),
 (124,[.one .str,.one (.int .i64)]),
 (125,[.one .str,.one (.int .i64)]),
 (126,[.one .bool]),
 (127,[.one .str]),
 (128,[.one (.int .i64),.one (.int .i64),.one (.int .i64)]),
 (129,[.agg [(.list .node)],.one (.int .i64)]),
 (133,[.one .str,.one (.int .i64),.one (.int .i64)]),
 (134,[.one .str,.one (.int .i64),.one (.int .u8)]),
 (135,[.one (.list .str)]),
 (141,[.agg [(.list .node)],.one (.int .i64)]),
 (142,[.one (.int .i64),.one .str,.ro [(.list .node)]]),
 (143,[.one (.list (.int .i64)),.one (.list .str),.fn]),
 (144,[.agg [(.list .node)]]),
 (145,[.one (.list (.int .i64)),.one (.int .i64)]),
 (146,[.one (.list (.int .i64))]),
 (147,[.one (.int .i64)]),
 (148,[.one (.int .i64)]),
 (149,[.one (.list (.int .i64))]),
 (150,[.one (.list (.int .i64)),.one (.int .i64)]),
 (152,[.rw [.str,.bool],.one (.int .i64)]),
 (155,[.one (.int .i64)]),
 (156,[.rw [.str,(.int .i64),(.own (.int .i64) false),.bool],.one (.int .i64)]),
 (157,[.one (.list (.int .i64)),.one (.int .i64)]),
 (158,[.one .str,.one (.int .i64)]),
 (159,[.one (.int .i64)]),
 (172,[.ro [(.list .node)],.one (.int .i64)]),
 (173,[.ro [(.list .node)],.one (.int .i64)]),
 (174,[.one (.int .i64),.ro [(.int .i64)]]),
 (175,[.one (.list (.int .i64)),.fn]),
 (176,[.one (.list .bool)]),
 (177,[.rw [.str,.bool]]),
 (178,[.rw [.str,.bool]]),
 (179,[.rw [.str,.bool],.one .str]),
 (180,[.rw [.str,.bool],.one (.int .i64)]),
 (181,[.rw [.str,.bool],.one (.int .u8),.one (.int .i64)]),
 (187,[.one (.int .u64),.one (.int .u64)]),
 (192,[.one (.list (.int .i64)),.fn]),
 (193,[.one .str,.one .str]),
 (198,[.one (.int .u64),.one (.int .u64)])]
noncomputable def O3:List (Nat×bR):=[(4,O0),(16,OH),(17,N4),(20,Og),(21,Oh),(22,LO),(23,MH),(24,NE),(25,Nq),(26,Oo),(27,Or),(28,OA),(29,OO),(30,KD),(31,Oj),(32,LP),(38,NY),(39,N5),(46,Ns),(47,OG),(48,NB),(49,EM),(52,Ob),(53,NU),(54,OI),(56,Oq),(57,OK),(58,K5),(60,Kz),(61,Ir),(62,OC),(63,OD),(64,Ov),(65,M1),(66,Ox),(67,KP),(68,Om),(69,On),(70,N2),(71,ON),(72,Ol),(73,Ot),(74,CO),(75,II),(76,Nb),(77,NJ),(78,L0),(86,LM),(87,KL),(88,OJ),(89,OF),(90,Ni),(91,NT),(92,Oz),(93,OL),(94,Nj),(97,MI),(98,Oi),(99,Nx),(100,NM),(101,J8),(102,Jh),(104,ND),(105,L6),(106,Jp),(107,Jg),(108,MP),(109,GE),(110,MV),(111,Nk),(112,MD),(113,Kp),(114,LY),(115,EC),(117,L1),(118,MA),(119,N6),(120,M3),(121,NR),(122,J9),(123,NI),(124,Jx),(125,NV),(126,MU),(127,Nn),(128,Mc),(129,JP),(133,Kr),(134,J6),(135,Nc),(141,MR),(142,MQ),(143,NF),(144,Ge),(145,NQ),(146,Kt),(147,J7),(148,M9),(149,Jl),(150,Ff),(152,ME),(155,MG),(156,MO),(157,Bg),(158,L9),(159,M8),(172,JM),(173,MB),(174,N8),(175,L2),(176,JK),(177,MX),(178,N1),(179,NC),(180,NP),(181,JS),(187,MF),(192,Kq),(193,N7),(198,MM)]
noncomputable def OV:List (Nat×cj):=[(4,OU),(16,MN),(17,Ld),(20,Md),(21,Nv),(22,He),(23,LJ),(24,K2),(25,K6),(26,NH),(27,MK),(28,Nl),(29,MS),(30,Hw),(31,Nu),(32,IO),(38,Ls),(39,KQ),(46,LA),(47,MJ),(48,KB),(49,CU),(52,Lx),(53,Lh),(54,Nw),(56,NX),(57,M5),(58,Hr),(60,IZ),(61,GR),(62,MZ),(63,NZ),(64,ML),(65,Lo),(66,LX),(67,H4),(68,N3),(69,MY),(70,Le),(71,NL),(72,M4),(73,NS),(74,A8),(75,F9),(76,KC),(77,Ly),(78,LQ),(86,Hy),(87,HD),(88,NN),(89,Na),(90,LH),(91,KR),(92,NA),(93,Me),(94,La),(97,LI),(98,NK),(99,Lr),(100,JI),(101,Ec),(102,Ee),(104,Kv),(106,Fo),(107,G0),(108,Jv),(109,BI),(110,Jt),(111,J5),(112,Jy),(113,GO),(114,Jn),(115,Br),(117,Jj),(118,JD),(119,Jk),(120,JJ),(121,Jm),(122,E9),(123,JL),(124,Gm),(125,Ko),(126,Jo),(127,JV),(128,JC),(129,Ek),(133,FZ),(134,GT),(135,Jz),(141,JB),(142,Ks),(143,JX),(144,BW),(145,J1),(146,F2),(147,EO),(148,JO),(149,FO),(150,Bz),(152,JG),(155,J2),(156,JE),(157,yC),(158,JW),(172,F3),(173,Jr),(174,JH),(175,JA),(176,FC),(177,Ji),(178,J3),(179,JQ),(180,Jw),(181,Eu),(187,J4),(192,FQ),(198,JR)]
noncomputable def Gz (f:FuncId):List PK:=match look f Nz with|some l=>l|none=>[]
noncomputable def rC (f:FuncId):bR:=match look f O3 with|some s=>s|none=>⟨[],[]⟩
noncomputable def FS (f:FuncId)(args:List md):Option (rC f).den:=
 if h:f=105 then h.symm ▸ (show Option (rC 105).den from ul args) else
 if h:f=159 then h.symm ▸ (show Option (rC 159).den from tK args) else
 if h:f=193 then h.symm ▸ (show Option (rC 193).den from xX args) else
 none
noncomputable def E (bar:aD):fA:=⟨fun f=>look f OV,fun t=>look t OX,Gz,rC,FS,bar⟩
end Go.Proofs.YtjkokaockhecnaaGreatDoorA
