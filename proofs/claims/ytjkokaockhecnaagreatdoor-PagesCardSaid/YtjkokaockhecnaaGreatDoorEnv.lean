/- The functions, types, parameters and results of the program, as the machine is told of them: definitions alone. -/
import Derived.Test.YtjkokaockhecnaaGreatDoorProg
import Derived.Test.YtjkokaockhecnaaGreatDoorExt
namespace Go.Proofs.YtjkokaockhecnaaGreatDoorA
open Go
set_option linter.unusedVariables false
noncomputable def aw (f:Func):Code:=match f.body with|some c=>c|none=>.skip
noncomputable def O3:bR:=⟨[.one .bool],[]⟩
noncomputable def OU:cj:=⟨77,aw Go.Proofs.Tryz.f4,[.tmp 8],
 [],
 [],
 [],[],false⟩
noncomputable def Ol:bR:=⟨[.one .str],[]⟩
noncomputable def MN:cj:=⟨7,aw Go.Proofs.Tryz.f16,[.tmp 2],
 [],
 [],
 [],[],false⟩
noncomputable def NC:bR:=⟨[.el .arr,.one (.int .i64)],[]⟩
noncomputable def LN:cj:=⟨42,aw Go.Proofs.Tryz.f17,[.cell 6 27,.tmp 7],
 [],
 [(0,[.keep [1,2,3,6,8],.cell 6 6 .arr false,.keepR [3,6]])],
 [],[],false⟩
noncomputable def Ou:bR:=⟨[.one (.int .i64)],[]⟩
noncomputable def MW:cj:=⟨4,aw Go.Proofs.Tryz.f20,[.tmp 2],
 [],
 [],
 [],[],false⟩
noncomputable def OD:bR:=⟨[.el .col],[]⟩
noncomputable def NL:cj:=⟨16,aw Go.Proofs.Tryz.f21,[.cell 2 42],
 [],
 [],
 [],[],false⟩
noncomputable def LO:bR:=⟨[.one .str,.one (.int .i64)],[]⟩
noncomputable def Hi:cj:=⟨75,aw Go.Proofs.Tryz.f22,[.tmp 6,.tmp 7],
 [],
 [(0,[.keep [5,11,12,13,45,46,47],.bself 13,.own 45 (.int .i64) false,.cell 13 1 (.int .u8) false,.keepR [5,13,2045]]),(2,[.keep [13,60,61,62],.bself 13,.cell 13 1 (.int .u8) false,.keepR [13]])],
 [],[],false⟩
noncomputable def M5:bR:=⟨[.one .str,.one (.int .i64)],[]⟩
noncomputable def K3:cj:=⟨81,aw Go.Proofs.Tryz.f23,[.tmp 6,.tmp 7],
 [],
 [(0,[.keep [5,15,16],.keepR [5]])],
 [],[],false⟩
noncomputable def MJ:bR:=⟨[.agg [(.own (.int .i64) false),(.own (.int .i64) false),(.own .str false)],.one (.int .i64)],[]⟩
noncomputable def KO:cj:=⟨134,aw Go.Proofs.Tryz.f24,[.cell 6 42,.tmp 7],
 [],
 [(0,[.keep [1,2,3,6,11,15,16,17,82,83],.cell 15 0 (.int .i64) false,.cell 15 1 (.int .i64) false,.cell 15 2 .str false,.cell 6 0 (.int .i64) false,.cell 6 1 (.int .i64) false,.cell 6 2 .str false,.keepR [3,6,15,48]])],
 [],[],false⟩
noncomputable def NM:bR:=⟨[.el .col,.one (.int .i64)],[]⟩
noncomputable def KQ:cj:=⟨182,aw Go.Proofs.Tryz.f25,[.cell 6 42,.tmp 7],
 [],
 [(0,[.keep [1,2,3,6,8,11,13,16,18,19,20,21],.own 18 (.int .i64) false,.own 19 (.int .i64) false,.cell 6 0 (.int .i64) false,.cell 6 1 (.int .i64) false,.cell 6 2 .str false,.keepR [3,6,2018,2019]])],
 [],[],false⟩
noncomputable def Oq:bR:=⟨[.one .bool],[]⟩
noncomputable def Nl:cj:=⟨24,aw Go.Proofs.Tryz.f26,[.tmp 4],
 [],
 [],
 [],[],false⟩
noncomputable def OP:bR:=⟨[],[]⟩
noncomputable def LX:cj:=⟨11,aw Go.Proofs.Tryz.f27,[],
 [],
 [],
 [],[],false⟩
noncomputable def OA:bR:=⟨[.one .bool],[]⟩
noncomputable def N7:cj:=⟨87,aw Go.Proofs.Tryz.f28,[.tmp 0],
 [],
 [],
 [],[23,32,40],false⟩
noncomputable def Ot:bR:=⟨[.agg [(.own .node false)]],[]⟩
noncomputable def NY:cj:=⟨4,aw Go.Proofs.Tryz.f29,[.cell 0 32],
 [],
 [],
 [],[],false⟩
noncomputable def Ll:bR:=⟨[.one (.int .i64)],[]⟩
noncomputable def H7:cj:=⟨33,aw Go.Proofs.Tryz.f30,[.tmp 2],
 [],
 [(0,[.keep [0,3,4],.keepR []]),(2,[.keep [0,3,4,5],.keepR []])],
 [],[],false⟩
noncomputable def OR:bR:=⟨[.one .str],[]⟩
noncomputable def Nx:cj:=⟨24,aw Go.Proofs.Tryz.f31,[.tmp 4],
 [],
 [(0,[.keep [0,1,5,6],.own 5 (.int .u8) false,.keepR [2005]])],
 [],[],false⟩
noncomputable def Lo:bR:=⟨[.one .bool],[]⟩
noncomputable def HI:cj:=⟨116,aw Go.Proofs.Tryz.f32,[.tmp 6],
 [],
 [(0,[.keep [1,3,5,7,8,10,11],.keepR [3,5]]),(2,[.keep [1,3,5,10,12],.keepR [3,5]])],
 [],[],false⟩
noncomputable def Oc:bR:=⟨[.one .bool],[]⟩
noncomputable def LF:cj:=⟨26,aw Go.Proofs.Tryz.f38,[.tmp 4],
 [],
 [(0,[.keep [0,1,5],.keepR []])],
 [],[],false⟩
noncomputable def NT:bR:=⟨[],[]⟩
noncomputable def K7:cj:=⟨17,aw Go.Proofs.Tryz.f39,[],
 [],
 [(0,[.keep [0,2],.own 0 .str false,.keepR [2000]])],
 [],[],false⟩
noncomputable def Oa:bR:=⟨[.one .str],[]⟩
noncomputable def LM:cj:=⟨22,aw Go.Proofs.Tryz.f46,[.tmp 2],
 [],
 [(0,[.keep [0,3],.keepR []])],
 [],[],false⟩
noncomputable def OM:bR:=⟨[.one .bool],[]⟩
noncomputable def MK:cj:=⟨18,aw Go.Proofs.Tryz.f47,[.tmp 4],
 [],
 [],
 [],[],false⟩
noncomputable def M4:bR:=⟨[.one .bool],[]⟩
noncomputable def Lm:cj:=⟨105,aw Go.Proofs.Tryz.f48,[.tmp 6],
 [],
 [(0,[.keep [3,8,9,11,13],.own 9 .str false,.own 11 (.int .i64) false,.keepR [3,2009,2011]])],
 [],[],false⟩
noncomputable def Gg:bR:=⟨[.el .arr,.one .bool],[]⟩
noncomputable def CY:cj:=⟨222,aw Go.Proofs.Tryz.f49,[.cell 6 27,.tmp 7],
 [],
 [(0,[.keep [1,2,3,6,8,9,11,12,13],.own 9 (.int .i64) false,.own 12 .bool false,.cell 6 6 .arr false,.cell 8 6 .arr false,.keepR [3,6,8,40,2009,2012]]),(3,[.keep [1,2,3,6,8,9,11,12,13,14,15,18],.own 9 (.int .i64) false,.own 12 .bool false,.own 15 .str false,.cell 6 6 .arr false,.cell 8 6 .arr false,.keepR [3,6,8,40,2009,2012,2015]]),(6,[.keep [3,6,8,9,11,20],.own 9 (.int .i64) false,.cell 6 6 .arr false,.cell 8 6 .arr false,.keepR [3,6,8,40,2009]])],
 [(39,[.keep [3,6,8,9,11],.own 9 (.int .i64) false,.cell 6 6 .arr false,.cell 8 6 .arr false,.keepR [3,6,8,40,2009]])],[],false⟩
noncomputable def Nb:bR:=⟨[.one .bool],[]⟩
noncomputable def KT:cj:=⟨78,aw Go.Proofs.Tryz.f52,[.tmp 6],
 [],
 [(0,[.keep [1,3,5,8,53,54,55],.keepR [3,5]])],
 [],[],false⟩
noncomputable def MV:bR:=⟨[.one (.int .i64),.one (.int .i64),.one (.int .i64)],[]⟩
noncomputable def LE:cj:=⟨44,aw Go.Proofs.Tryz.f53,[.tmp 4,.tmp 5,.tmp 6],
 [],
 [(0,[.keep [2,7,8,16,17,18],.own 16 (.int .i64) false,.keepR [2,2016]])],
 [],[],false⟩
noncomputable def OO:bR:=⟨[.one .str],[]⟩
noncomputable def Nr:cj:=⟨16,aw Go.Proofs.Tryz.f54,[.tmp 4],
 [],
 [],
 [],[],false⟩
noncomputable def Of:bR:=⟨[.one .str],[]⟩
noncomputable def MM:cj:=⟨25,aw Go.Proofs.Tryz.f56,[.tmp 4],
 [],
 [(0,[.keep [0,5,10,11],.own 5 (.int .u8) false,.keepR [2005]])],
 [],[],false⟩
noncomputable def Oi:bR:=⟨[.one .str],[]⟩
noncomputable def N3:cj:=⟨45,aw Go.Proofs.Tryz.f57,[.tmp 2],
 [],
 [],
 [],[],false⟩
noncomputable def La:bR:=⟨[.one (.int .i64)],[]⟩
noncomputable def Im:cj:=⟨31,aw Go.Proofs.Tryz.f58,[.tmp 2],
 [],
 [(0,[.keep [0,3,7,8],.keepR []]),(2,[.keep [0,3,7,8,17],.keepR []])],
 [],[],false⟩
noncomputable def KU:bR:=⟨[.one (.int .i64),.one (.int .i64),.one (.int .i64)],[]⟩
noncomputable def Ht:cj:=⟨42,aw Go.Proofs.Tryz.f60,[.tmp 4,.tmp 5,.tmp 6],
 [],
 [(0,[.keep [1,2,7,8],.keepR [2]])],
 [(8,[.keep [1,2,7,8],.keepR [2]])],[],false⟩
noncomputable def HC:bR:=⟨[.one .str,.one (.int .i64)],[]⟩
noncomputable def Fa:cj:=⟨118,aw Go.Proofs.Tryz.f61,[.tmp 4,.tmp 5],
 [],
 [(0,[.keep [0,1,6],.keepR []]),(2,[.keep [0,1,7,8],.keepR []]),(4,[.keep [0,1,7,8,12],.keepR []])],
 [],[],false⟩
noncomputable def Oy:bR:=⟨[.one (.int .i64)],[]⟩
noncomputable def NQ:cj:=⟨11,aw Go.Proofs.Tryz.f62,[.tmp 2],
 [],
 [(0,[.keep [0,3],.keepR []])],
 [],[],false⟩
noncomputable def Ox:bR:=⟨[.one .str],[]⟩
noncomputable def NU:cj:=⟨32,aw Go.Proofs.Tryz.f63,[.tmp 2],
 [],
 [],
 [],[],false⟩
noncomputable def OC:bR:=⟨[.one .bool],[]⟩
noncomputable def L0:cj:=⟨18,aw Go.Proofs.Tryz.f64,[.tmp 4],
 [],
 [],
 [],[],false⟩
noncomputable def MC:bR:=⟨[.one (.int .i64)],[]⟩
noncomputable def K6:cj:=⟨22,aw Go.Proofs.Tryz.f65,[.tmp 2],
 [],
 [(0,[.keep [0,3,6,7],.keepR []])],
 [],[],false⟩
noncomputable def Ov:bR:=⟨[.one (.int .i64)],[(0,[.str,.bool])]⟩
noncomputable def M8:cj:=⟨27,aw Go.Proofs.Tryz.f66,[.tmp 2],
 [],
 [],
 [],[],false⟩
noncomputable def Ky:bR:=⟨[.one (.own (.int .i64) false),.one (.int .i64)],[]⟩
noncomputable def H4:cj:=⟨136,aw Go.Proofs.Tryz.f67,[.tmp 6,.tmp 7],
 [],
 [(0,[.keep [0,1,2,8],.cell 32 2 (.int .i64) false,.keepR [32]])],
 [(12,[.keep [0,1,2,8,9],.cell 32 2 (.int .i64) false,.keepR [32]])],[],false⟩
noncomputable def OB:bR:=⟨[.one .str],[(0,[.str,.bool])]⟩
noncomputable def NA:cj:=⟨42,aw Go.Proofs.Tryz.f68,[.tmp 4],
 [],
 [],
 [],[],false⟩
noncomputable def OK:bR:=⟨[.one (.int .i64)],[]⟩
noncomputable def NG:cj:=⟨8,aw Go.Proofs.Tryz.f69,[.tmp 2],
 [],
 [],
 [],[],false⟩
noncomputable def M3:bR:=⟨[.one (.int .i64)],[]⟩
noncomputable def LC:cj:=⟨21,aw Go.Proofs.Tryz.f70,[.tmp 4],
 [],
 [(0,[.keep [1,5,8,9,10],.keepR []])],
 [],[],false⟩
noncomputable def Og:bR:=⟨[.one .str],[(0,[.str,.bool])]⟩
noncomputable def L8:cj:=⟨22,aw Go.Proofs.Tryz.f71,[.tmp 4],
 [],
 [],
 [],[],false⟩
noncomputable def Oj:bR:=⟨[.one .bool],[]⟩
noncomputable def MD:cj:=⟨17,aw Go.Proofs.Tryz.f72,[.tmp 4],
 [],
 [],
 [],[],false⟩
noncomputable def OS:bR:=⟨[.one (.int .i64),.one (.int .i64)],[]⟩
noncomputable def MX:cj:=⟨42,aw Go.Proofs.Tryz.f73,[.tmp 6,.tmp 7],
 [],
 [],
 [],[],false⟩
noncomputable def DL:bR:=⟨[.one (.own (.int .i64) false),.one (.int .i64)],[]⟩
noncomputable def A4:cj:=⟨149,aw Go.Proofs.Tryz.f74,[.tmp 6,.tmp 7],
 [],
 [(0,[.keep [0,1,2,8,9],.own 8 (.int .i64) false,.keepR [2008]]),(2,[.keep [0,1,2,8,10,11,13,14,15],.own 8 (.int .i64) false,.keepR [2008]]),(4,[.keep [0,1,2,8,10,11,13,14,15,16,17],.own 8 (.int .i64) false,.keepR [2008]])],
 [(13,[.keep [0,1,2,8,10,11,13,14],.own 8 (.int .i64) false,.keepR [2008]]),(21,[.keep [0,1,2,8,10,11,13,14,15,16],.own 8 (.int .i64) false,.keepR [2008]])],[],false⟩
noncomputable def H2:bR:=⟨[.one (.own .str false),.one .bool],[]⟩
noncomputable def FG:cj:=⟨77,aw Go.Proofs.Tryz.f75,[.tmp 6,.tmp 7],
 [],
 [(0,[.keep [0,1,2,8,9,10],.own 8 .str false,.keepR [2008]])],
 [(9,[.keep [0,1,2,8,9,10,11],.own 8 .str false,.keepR [2008]]),(15,[.keep [0,1,2,8,9,10,11],.own 8 .str false,.keepR [2008]])],[],false⟩
noncomputable def Nn:bR:=⟨[.one .bool],[]⟩
noncomputable def KL:cj:=⟨26,aw Go.Proofs.Tryz.f76,[.tmp 4],
 [],
 [(0,[.keep [0,1,5],.keepR []])],
 [],[],false⟩
noncomputable def Ns:bR:=⟨[],[]⟩
noncomputable def LL:cj:=⟨17,aw Go.Proofs.Tryz.f77,[],
 [],
 [(0,[.keep [0,2],.own 0 (.int .i64) false,.keepR [2000]])],
 [],[],false⟩
noncomputable def MZ:bR:=⟨[.one .bool],[]⟩
noncomputable def Lt:cj:=⟨99,aw Go.Proofs.Tryz.f78,[.tmp 2],
 [],
 [(0,[.keep [1,3,4],.own 3 (.int .i64) false,.keepR [1,2003]])],
 [],[],false⟩
noncomputable def Ld:bR:=⟨[.one .str],[]⟩
noncomputable def HD:cj:=⟨37,aw Go.Proofs.Tryz.f86,[.tmp 2],
 [],
 [(0,[.keep [0,3,4],.own 4 (.int .u8) false,.keepR [2004]])],
 [(4,[.keep [0,3],.keepR []])],[],false⟩
noncomputable def Lc:bR:=⟨[.one (.int .i64),.one (.own .str false),.one (.int .i64)],[]⟩
noncomputable def HU:cj:=⟨64,aw Go.Proofs.Tryz.f87,[.tmp 2,.tmp 3,.tmp 4],
 [],
 [(1,[.keep [0,5,6],.own 5 .str false,.keepR [2005]])],
 [(13,[.keep [0],.keepR []])],[],false⟩
noncomputable def Oh:bR:=⟨[.one (.own (.int .i64) false),.one (.int .i64)],[]⟩
noncomputable def ND:cj:=⟨13,aw Go.Proofs.Tryz.f88,[.tmp 4,.tmp 5],
 [],
 [],
 [],[],false⟩
noncomputable def OF:bR:=⟨[.one .bool],[]⟩
noncomputable def NN:cj:=⟨9,aw Go.Proofs.Tryz.f89,[.tmp 2],
 [],
 [],
 [],[],false⟩
noncomputable def L2:bR:=⟨[.one .str],[]⟩
noncomputable def Kx:cj:=⟨31,aw Go.Proofs.Tryz.f90,[.tmp 2],
 [],
 [(0,[.keep [0,3,4,5],.own 3 .bool false,.keepR [2003]])],
 [],[],false⟩
noncomputable def MS:bR:=⟨[.one (.int .i64),.one .bool],[]⟩
noncomputable def K0:cj:=⟨59,aw Go.Proofs.Tryz.f91,[.tmp 2,.tmp 3],
 [],
 [(0,[.keep [0,4,5],.keepR []])],
 [],[],false⟩
noncomputable def OE:bR:=⟨[.one .str],[]⟩
noncomputable def N6:cj:=⟨18,aw Go.Proofs.Tryz.f92,[.tmp 2],
 [],
 [(0,[.keep [0,3,4],.keepR []])],
 [],[],false⟩
noncomputable def OL:bR:=⟨[.one .str],[]⟩
noncomputable def Nc:cj:=⟨52,aw Go.Proofs.Tryz.f93,[.tmp 4],
 [],
 [(1,[.keep [2,5,7,8],.own 5 (.int .i64) false,.own 7 .str false,.keepR [2,2005,2007]])],
 [],[],false⟩
noncomputable def Md:bR:=⟨[.one .str],[]⟩
noncomputable def LP:cj:=⟨34,aw Go.Proofs.Tryz.f94,[.tmp 2],
 [],
 [(0,[.keep [0,3,4],.own 3 (.int .u8) false,.keepR [2003]])],
 [],[],false⟩
noncomputable def MH:bR:=⟨[.one .bool],[]⟩
noncomputable def K8:cj:=⟨21,aw Go.Proofs.Tryz.f97,[.tmp 4],
 [],
 [(0,[.keep [1,7,8,9],.keepR []])],
 [],[],false⟩
noncomputable def OI:bR:=⟨[.one .str],[]⟩
noncomputable def NR:cj:=⟨1,aw Go.Proofs.Tryz.f98,[.tmp 0],
 [],
 [],
 [],[],false⟩
noncomputable def MR:bR:=⟨[.one .bool],[]⟩
noncomputable def K2:cj:=⟨91,aw Go.Proofs.Tryz.f99,[.tmp 6],
 [],
 [(1,[.keep [7,8,11,13,70,71,72],.view 8 .str,.own 11 (.int .i64) false,.view 70 .str,.keepR [3,2011]])],
 [],[],false⟩
noncomputable def Ny:bR:=⟨[.one .bool],[]⟩
noncomputable def Jl:cj:=⟨18,aw Go.Proofs.Tryz.f100,[.tmp 4],
 [],
 [],
 [],[],false⟩
noncomputable def JI:bR:=⟨[.one (.own (.int .i64) false)],[]⟩
noncomputable def E4:cj:=⟨21,aw Go.Proofs.Tryz.f101,[.tmp 4],
 [],
 [(0,[.keep [0,1,5],.own 5 (.int .i64) false,.keepR [2005]])],
 [],[],false⟩
noncomputable def JM:bR:=⟨[.one .str,.one (.int .i64)],[]⟩
noncomputable def Gi:cj:=⟨62,aw Go.Proofs.Tryz.f102,[.tmp 4,.tmp 5],
 [],
 [(0,[.keep [0,1,6],.bself 6,.cell 6 1 (.int .u8) false,.keepR [6]])],
 [],[],false⟩
noncomputable def N5:bR:=⟨[.one (.int .i64),.one (.own .str false),.one (.int .i64)],[]⟩
noncomputable def JC:cj:=⟨32,aw Go.Proofs.Tryz.f104,[.tmp 2,.tmp 3,.tmp 4],
 [],
 [],
 [],[],false⟩
noncomputable def MO:bR:=⟨[.one (.int .i64),.one .err],[]⟩
noncomputable def JW:bR:=⟨[.one (.int .i64)],[]⟩
noncomputable def G0:cj:=⟨28,aw Go.Proofs.Tryz.f106,[.tmp 4],
 [],
 [(0,[.keep [0,1,5],.keepR []])],
 [],[],false⟩
noncomputable def Ko:bR:=⟨[.one .str,.one (.int .i64)],[]⟩
noncomputable def Fq:cj:=⟨26,aw Go.Proofs.Tryz.f107,[.tmp 2,.tmp 3],
 [],
 [(0,[.keep [0,4],.own 4 (.int .u8) false,.keepR [2004]])],
 [],[],false⟩
noncomputable def N8:bR:=⟨[.one (.int .i64)],[]⟩
noncomputable def JO:cj:=⟨6,aw Go.Proofs.Tryz.f108,[.tmp 2],
 [],
 [],
 [],[],false⟩
noncomputable def GR:bR:=⟨[.one .str],[]⟩
noncomputable def BL:cj:=⟨41,aw Go.Proofs.Tryz.f109,[.tmp 4],
 [],
 [(0,[.keep [0,1,5,6],.own 5 .bool false,.keepR [2005]]),(2,[.keep [0,1,5,6,7],.own 5 .bool false,.keepR [2005]])],
 [],[],false⟩
noncomputable def NS:bR:=⟨[.one .str],[]⟩
noncomputable def Ku:cj:=⟨16,aw Go.Proofs.Tryz.f110,[.tmp 2],
 [],
 [],
 [],[7,10],false⟩
noncomputable def Nw:bR:=⟨[.one .bool],[]⟩
noncomputable def JQ:cj:=⟨9,aw Go.Proofs.Tryz.f111,[.tmp 2],
 [],
 [],
 [],[],false⟩
noncomputable def NX:bR:=⟨[.one (.int .i64),.one (.int .i64)],[]⟩
noncomputable def JV:cj:=⟨48,aw Go.Proofs.Tryz.f112,[.tmp 6,.tmp 7],
 [],
 [],
 [],[],false⟩
noncomputable def Js:bR:=⟨[.one (.int .i64),.one (.int .i64),.one (.int .i64)],[]⟩
noncomputable def EX:cj:=⟨70,aw Go.Proofs.Tryz.f113,[.tmp 4,.tmp 5,.tmp 6],
 [],
 [(0,[.keep [0,1,7,8],.keepR []])],
 [],[],false⟩
noncomputable def NW:bR:=⟨[],[(0,[.str,(.int .i64),(.own (.int .i64) false),.bool])]⟩
noncomputable def Jy:cj:=⟨44,aw Go.Proofs.Tryz.f114,[],
 [(1000000,[.cell 1000 2 (.int .i64) false])],
 [],
 [],[38],false⟩
noncomputable def E6:bR:=⟨[],[(0,[.str,(.int .i64),(.own (.int .i64) false),.bool])]⟩
noncomputable def BU:cj:=⟨74,aw Go.Proofs.Tryz.f115,[],
 [],
 [(0,[.keep [0,6,30,31],.cell 1000 2 (.int .i64) false,.keepR [1000]]),(2,[.keep [0,6,7,8,30,31,37,38],.cell 1000 2 (.int .i64) false,.keepR [1000]])],
 [],[],false⟩
noncomputable def NZ:bR:=⟨[.one (.int .i64)],[]⟩
noncomputable def Kt:cj:=⟨25,aw Go.Proofs.Tryz.f117,[.tmp 2],
 [],
 [],
 [(4,[.keep [0,2],.keepR []]),(7,[.keep [0,2],.keepR []])],[],false⟩
noncomputable def M1:bR:=⟨[.one .str],[]⟩
noncomputable def JS:cj:=⟨7,aw Go.Proofs.Tryz.f118,[.tmp 2],
 [],
 [],
 [],[],false⟩
noncomputable def Nq:bR:=⟨[.one .str],[]⟩
noncomputable def JF:cj:=⟨4,aw Go.Proofs.Tryz.f119,[.tmp 2],
 [],
 [],
 [],[],false⟩
noncomputable def MF:bR:=⟨[.one .str],[]⟩
noncomputable def JY:cj:=⟨10,aw Go.Proofs.Tryz.f120,[.tmp 2],
 [],
 [],
 [],[],false⟩
noncomputable def MB:bR:=⟨[.one .str],[(0,[.str,.bool])]⟩
noncomputable def Jz:cj:=⟨7,aw Go.Proofs.Tryz.f121,[.tmp 2],
 [],
 [],
 [],[],false⟩
noncomputable def Jn:bR:=⟨[.one (.int .i64)],[]⟩
noncomputable def E5:cj:=⟨21,aw Go.Proofs.Tryz.f122,[.tmp 2],
 [],
 [(0,[.keep [0,3,4],.keepR []])],
 [],[],false⟩
noncomputable def L6:bR:=⟨[.one .bool],[]⟩
noncomputable def J1:cj:=⟨5,aw Go.Proofs.Tryz.f123,[.tmp 2],
 [],
 [],
 [],[],false⟩
noncomputable def Ks:bR:=⟨[.one (.int .i64),.one (.int .i64),.one (.int .i64)],[]⟩
noncomputable def GE:cj:=⟨63,aw Go.Proofs.Tryz.f124,[.tmp 4,.tmp 5,.tmp 6],
 [],
 [(0,[.keep [0,1,7,8],.keepR []])],
 [],[],false⟩
noncomputable def N4:bR:=⟨[.one .bool],[]⟩
noncomputable def Kp:cj:=⟨14,aw Go.Proofs.Tryz.f125,[.tmp 4],
 [],
 [],
 [],[],false⟩
noncomputable def Ni:bR:=⟨[.one .str],[]⟩
noncomputable def J5:cj:=⟨4,aw Go.Proofs.Tryz.f126,[.tmp 2],
 [],
 [],
 [],[],false⟩
noncomputable def Nj:bR:=⟨[.one .str],[]⟩
noncomputable def J7:cj:=⟨10,aw Go.Proofs.Tryz.f127,[.tmp 2],
 [],
 [],
 [],[],false⟩
noncomputable def NJ:bR:=⟨[.one .bool],[]⟩
noncomputable def JG:cj:=⟨15,aw Go.Proofs.Tryz.f128,[.tmp 6],
 [],
 [],
 [],[],false⟩
noncomputable def Kq:bR:=⟨[.one (.own (.int .i64) false)],[]⟩
noncomputable def D4:cj:=⟨27,aw Go.Proofs.Tryz.f129,[.tmp 4],
 [],
 [(0,[.keep [1,2,5,6],.own 5 (.int .i64) false,.keepR [2,2005]])],
 [],[],false⟩
noncomputable def J2:bR:=⟨[.one (.int .i64)],[]⟩
noncomputable def Ey:cj:=⟨126,aw Go.Proofs.Tryz.f133,[.tmp 6],
 [],
 [(1,[.keep [0,1,2,13],.keepR []])],
 [],[],false⟩
noncomputable def JP:bR:=⟨[.one (.int .i64)],[]⟩
noncomputable def GL:cj:=⟨27,aw Go.Proofs.Tryz.f134,[.tmp 6],
 [],
 [(0,[.keep [0,1,2,7],.keepR []])],
 [],[],false⟩
noncomputable def L1:bR:=⟨[.one .str],[]⟩
noncomputable def JB:cj:=⟨7,aw Go.Proofs.Tryz.f135,[.tmp 2],
 [],
 [],
 [],[],false⟩
noncomputable def MQ:bR:=⟨[.one (.own (.int .i64) false),.one (.int .i64)],[]⟩
noncomputable def Jj:cj:=⟨12,aw Go.Proofs.Tryz.f141,[.tmp 4,.tmp 5],
 [],
 [],
 [],[],false⟩
noncomputable def Nu:bR:=⟨[.one .bool],[]⟩
noncomputable def JH:cj:=⟨10,aw Go.Proofs.Tryz.f142,[.tmp 5],
 [],
 [],
 [],[],false⟩
noncomputable def NF:bR:=⟨[.one .bool],[]⟩
noncomputable def JK:cj:=⟨33,aw Go.Proofs.Tryz.f143,[.tmp 6],
 [],
 [(0,[.keep [0,1,2,12,13],.keepR []])],
 [],[],false⟩
noncomputable def F2:bR:=⟨[.one .bool],[]⟩
noncomputable def B2:cj:=⟨74,aw Go.Proofs.Tryz.f144,[.tmp 2],
 [],
 [(0,[.keep [1,19,20,21],.keepR [1]]),(2,[.keep [1,41,42,43],.keepR [1]])],
 [],[],false⟩
noncomputable def Mc:bR:=⟨[.one .bool],[]⟩
noncomputable def Jt:cj:=⟨24,aw Go.Proofs.Tryz.f145,[.tmp 4],
 [],
 [],
 [],[],false⟩
noncomputable def J9:bR:=⟨[.one (.int .i64)],[]⟩
noncomputable def Gs:cj:=⟨21,aw Go.Proofs.Tryz.f146,[.tmp 2],
 [],
 [(0,[.keep [0,5,6,7],.keepR []])],
 [],[],false⟩
noncomputable def Jv:bR:=⟨[.one .str,.one (.int .i64)],[]⟩
noncomputable def EB:cj:=⟨24,aw Go.Proofs.Tryz.f147,[.tmp 2,.tmp 3],
 [],
 [(0,[.keep [0,4],.own 4 (.int .u8) false,.keepR [2004]])],
 [],[],false⟩
noncomputable def M6:bR:=⟨[.one (.int .i64)],[]⟩
noncomputable def Ji:cj:=⟨6,aw Go.Proofs.Tryz.f148,[.tmp 2],
 [],
 [],
 [],[],false⟩
noncomputable def Ju:bR:=⟨[.one (.int .i64)],[]⟩
noncomputable def FP:cj:=⟨18,aw Go.Proofs.Tryz.f149,[.tmp 2],
 [],
 [(0,[.keep [0,3],.keepR []])],
 [],[],false⟩
noncomputable def E3:bR:=⟨[.one .str],[]⟩
noncomputable def BZ:cj:=⟨45,aw Go.Proofs.Tryz.f150,[.tmp 4],
 [],
 [(0,[.keep [1,5,18,19,20],.own 5 .bool false,.keepR [2005]]),(2,[.keep [1,5,6,7,18,19,20,25,26],.own 5 .bool false,.keepR [2005]])],
 [],[],false⟩
noncomputable def NK:bR:=⟨[.one (.int .i64),.one (.own .str false)],[(0,[.str,.bool])]⟩
noncomputable def Jm:cj:=⟨65,aw Go.Proofs.Tryz.f152,[.tmp 4,.tmp 5],
 [],
 [],
 [],[],false⟩
noncomputable def LY:bR:=⟨[.one .bool],[]⟩
noncomputable def Jo:cj:=⟨9,aw Go.Proofs.Tryz.f155,[.tmp 2],
 [],
 [],
 [],[],false⟩
noncomputable def Me:bR:=⟨[.one .str],[(0,[.str,(.int .i64),(.own (.int .i64) false),.bool])]⟩
noncomputable def JR:cj:=⟨38,aw Go.Proofs.Tryz.f156,[.tmp 4],
 [],
 [],
 [],[],false⟩
noncomputable def BJ:bR:=⟨[.one (.own (.int .i64) false)],[]⟩
noncomputable def yh:cj:=⟨48,aw Go.Proofs.Tryz.f157,[.tmp 4],
 [],
 [(0,[.keep [7,8],.own 7 (.int .i64) false,.keepR [2007]])],
 [(3,[.keep [0,1],.keepR []]),(6,[.keep [0,6],.keepR []])],[],false⟩
noncomputable def MG:bR:=⟨[.one .bool],[]⟩
noncomputable def Jq:cj:=⟨14,aw Go.Proofs.Tryz.f158,[.tmp 4],
 [],
 [],
 [],[],false⟩
noncomputable def Nk:bR:=⟨[.one .str],[]⟩
noncomputable def JJ:bR:=⟨[.one (.own (.int .i64) false)],[]⟩
noncomputable def E2:cj:=⟨32,aw Go.Proofs.Tryz.f172,[.tmp 4],
 [],
 [(0,[.keep [1,5,11,12,13],.own 5 (.int .i64) false,.keepR [2005]])],
 [],[],false⟩
noncomputable def N2:bR:=⟨[.one .bool],[]⟩
noncomputable def Jp:cj:=⟨36,aw Go.Proofs.Tryz.f173,[.tmp 4],
 [],
 [],
 [],[],false⟩
noncomputable def M7:bR:=⟨[.one .bool],[]⟩
noncomputable def J6:cj:=⟨12,aw Go.Proofs.Tryz.f174,[.tmp 3],
 [],
 [],
 [],[],false⟩
noncomputable def ML:bR:=⟨[.one .bool],[]⟩
noncomputable def JU:cj:=⟨9,aw Go.Proofs.Tryz.f175,[.tmp 4],
 [],
 [],
 [],[],false⟩
noncomputable def J0:bR:=⟨[.one .str],[]⟩
noncomputable def F8:cj:=⟨31,aw Go.Proofs.Tryz.f176,[.tmp 2],
 [],
 [(0,[.keep [3,10,11,12],.own 3 (.int .u8) false,.keepR [2003]])],
 [],[],false⟩
noncomputable def L9:bR:=⟨[.one (.int .i64),.one (.own .str false)],[(0,[.str,.bool])]⟩
noncomputable def Jh:cj:=⟨7,aw Go.Proofs.Tryz.f177,[.tmp 2,.tmp 3],
 [],
 [],
 [],[],false⟩
noncomputable def Ob:bR:=⟨[.one (.int .u8)],[(0,[.str,.bool])]⟩
noncomputable def Kv:cj:=⟨26,aw Go.Proofs.Tryz.f178,[.tmp 2],
 [],
 [],
 [],[],false⟩
noncomputable def ME:bR:=⟨[.one (.int .i64),.one .str],[(0,[.str,.bool])]⟩
noncomputable def JL:cj:=⟨47,aw Go.Proofs.Tryz.f179,[.tmp 4,.tmp 5],
 [],
 [],
 [],[],false⟩
noncomputable def NB:bR:=⟨[.one .str],[(0,[.str,.bool])]⟩
noncomputable def J4:cj:=⟨42,aw Go.Proofs.Tryz.f180,[.tmp 4],
 [],
 [],
 [],[],false⟩
noncomputable def JD:bR:=⟨[.one (.own .str false)],[(0,[.str,.bool])]⟩
noncomputable def GW:cj:=⟨53,aw Go.Proofs.Tryz.f181,[.tmp 6],
 [],
 [(0,[.keep [0,1,2,7],.own 7 .str false,.keepR [1000,2007]])],
 [],[],false⟩
noncomputable def Na:bR:=⟨[.one (.int .u64),.one (.int .u64)],[]⟩
noncomputable def Kr:cj:=⟨30,aw Go.Proofs.Tryz.f187,[.tmp 4,.tmp 5],
 [],
 [],
 [],[],false⟩
noncomputable def Jw:bR:=⟨[.one (.int .i64)],[]⟩
noncomputable def FI:cj:=⟨19,aw Go.Proofs.Tryz.f192,[.tmp 4],
 [],
 [(0,[.keep [0,1,7,8],.keepR []])],
 [],[],false⟩
noncomputable def NH:bR:=⟨[.one .str,.one .str,.one .bool],[]⟩
noncomputable def LZ:bR:=⟨[.one (.int .u64),.one (.int .u64)],[]⟩
noncomputable def Jg:cj:=⟨51,aw Go.Proofs.Tryz.f198,[.tmp 4,.tmp 5],
 [],
 [],
 [],[],false⟩
noncomputable def OW:List (Nat×jJ):=[
 (3,⟨false,1,8,[(.int .i64 0)],some .i64,false,none,0,[],0,[],false,false,false,false⟩),
 (4,⟨false,1,1,[(.bool false)],none,false,none,0,[],0,[],false,true,false,false⟩),
 (5,⟨false,1,1,[(.int .u8 0)],some .u8,false,none,0,[],0,[],false,false,false,false⟩),
 (9,⟨false,1,16,[(.str [])],none,true,none,0,[],0,[],false,false,false,false⟩),
 (23,⟨false,1,24,[.nils],none,false,some .str,9,[(.str [])],16,[],false,false,false,false⟩),
 (25,⟨false,1,24,[.nils],none,false,some .arr,27,[(.int .i64 0),(.int .i64 0),(.int .i64 0),(.str []),(.str []),(.str []),.nils],96,[],false,false,false,false⟩),
 (27,⟨true,7,96,[(.int .i64 0),(.int .i64 0),(.int .i64 0),(.str []),(.str []),(.str []),.nils],none,false,none,0,[],0,[(0,1,3),(1,1,3),(2,1,3),(3,1,9),(4,1,9),(5,1,9),(6,1,25)],false,false,false,false⟩),
 (30,⟨false,1,24,[.nils],none,false,some .node,58,[(.int .i64 0),(.int .i64 0),(.bool false)],24,[],false,false,false,false⟩),
 (32,⟨true,1,24,[.nils],none,false,none,0,[],0,[(0,1,30)],false,false,false,false⟩),
 (34,⟨false,1,8,[(.int .u64 0)],some .u64,false,none,0,[],0,[],false,false,false,false⟩),
 (40,⟨false,1,24,[.nils],none,false,some (.int .i64),3,[(.int .i64 0)],8,[],false,false,false,false⟩),
 (42,⟨true,3,72,[.nils,.nils,.nils],none,false,none,0,[],0,[(0,1,40),(1,1,40),(2,1,23)],false,false,false,false⟩),
 (55,⟨false,1,24,[.nils],none,false,some (.int .u8),5,[(.int .u8 0)],1,[],false,false,false,false⟩),
 (58,⟨true,3,24,[(.int .i64 0),(.int .i64 0),(.bool false)],none,false,none,0,[],0,[(0,1,3),(1,1,3),(2,1,4)],true,false,false,false⟩),
 (76,⟨false,1,24,[.nils],none,false,some (.list .str),23,[.nils],24,[],false,false,false,false⟩),
 (91,⟨true,2,32,[.nilp,.nils],none,false,none,0,[],0,[(0,1,89),(1,1,55)],false,false,true,false⟩),
 (93,⟨false,1,16,[.und],none,false,none,0,[],0,[],false,false,false,true⟩),
 (104,⟨true,2,24,[(.str []),(.bool false)],none,false,none,0,[],0,[(0,1,9),(1,1,4)],true,false,false,false⟩),
 (119,⟨false,1,4,[(.int .u32 0)],some .u32,false,none,0,[],0,[],false,false,false,false⟩),
 (131,⟨false,1,24,[.nils],none,false,some .bool,4,[(.bool false)],1,[],false,false,false,false⟩),
 (148,⟨false,1,8,[(.int .u64 0)],some .u64,false,none,0,[],0,[],false,false,false,false⟩),
 (153,⟨true,4,56,[(.str []),(.int .i64 0),.nils,(.bool false)],none,false,none,0,[],0,[(0,1,9),(1,1,3),(2,1,40),(3,1,4)],false,false,false,false⟩),
 (179,⟨true,2,24,[(.str []),(.bool false)],none,false,none,0,[],0,[(0,1,9),(1,1,4)],true,false,false,false⟩)]
noncomputable def N9:List (Nat×List PK):=[
 (4,[.agg [(.list .node)],.one (.int .i64),.agg [(.list (.int .i64)),(.list (.int .i64)),(.list .str)],.one .str]),
 (16,[.one (.int .i64)]),
 (17,[.agg [(.list .node)],.one (.int .i64),.one (.list .str)]),
 (20,[.one (.int .i64)]),
 (21,[.agg [(.list (.int .i64)),(.list (.int .i64)),(.list .str)]]),
 (22,[.agg [(.list .node)],.one (.int .i64),.agg [(.list (.int .i64)),(.list (.int .i64)),(.list .str)]]),
 (23,[.agg [(.list .node)],.one (.int .i64),.agg [(.list (.int .i64)),(.list (.int .i64)),(.list .str)]]),
 (24,[.agg [(.list .node)],.one (.int .i64),.one .str]),
 (25,[.agg [(.list .node)],.one (.int .i64),.one .str]),
 (26,[.agg [(.list (.int .i64)),(.list (.int .i64)),(.list .str)],.agg [(.list (.int .i64)),(.list (.int .i64)),(.list .str)]]),
 (27,[.agg [(.own (.int .i64) false),(.own (.int .i64) false),(.own .str false)]]),
 (28,[]),
 (29,[]),
 (30,[.one .str]),
 (31,[.one (.int .i64),.one (.int .i64)]),
 (32,[.agg [(.list .node)],.one (.int .i64),.agg [(.list (.int .i64)),(.list (.int .i64)),(.list .str)]]),
 (38,[.one (.list .str),.one (.list .str)]),
 (39,[.one (.own .str false)]),
 (46,[.one (.int .i64)]),
 (47,[.agg [(.list .node)],.one (.int .i64)]),
 (48,[.agg [(.list .node)],.one (.int .i64),.one .str]),
 (49,[.agg [(.list .node)],.one (.int .i64),.one (.list .str)]),
 (52,[.agg [(.list .node)],.one (.int .i64),.agg [(.list (.int .i64)),(.list (.int .i64)),(.list .str)]]),
 (53,[.agg [(.list .node)],.one (.int .i64)]),
 (54,[.one (.list (.int .i64)),.one (.int .i64)]),
 (55,[.bw 91,.one .str]),
 (56,[.one (.int .i64),.one (.int .i64)]),
 (57,[.one .str]),
 (58,[.one .str]),
 (59,[.br 91 5]),
 (60,[.agg [(.list .node)],.one (.int .i64)]),
 (61,[.one (.list (.int .i64)),.one (.int .i64)]),
 (62,[.one (.int .i64)]),
 (63,[.one .str]),
 (64,[.agg [(.list .node)],.one (.int .i64)]),
 (65,[.one .str]),
 (66,[.rw [.str,.bool]]),
 (67,[.one .str,.one (.int .i64),.one (.int .i64)]),
 (68,[.rw [.str,.bool],.one (.int .i64)]),
 (69,[.one (.int .u64)]),
 (70,[.one (.list (.int .i64)),.one (.int .i64)]),
 (71,[.rw [.str,.bool],.one (.int .i64)]),
 (72,[.agg [(.list .node)],.one (.int .i64)]),
 (73,[.one .str,.one (.int .i64),.one (.int .i64)]),
 (74,[.one .str,.one (.int .i64),.one (.int .i64)]),
 (75,[.one (.int .i64),.one .str,.one (.int .i64)]),
 (76,[.one (.list (.int .i64)),.one (.list (.int .i64))]),
 (77,[.one (.own (.int .i64) false)]),
 (78,[.agg [(.list .node)]]),
 (86,[.one (.int .i64)]),
 (87,[.one .str]),
 (88,[.agg [(.list .node)],.one (.int .i64)]),
 (89,[.one (.int .i64)]),
 (90,[.one (.list .str)]),
 (91,[.one .str]),
 (92,[.one (.list .str)]),
 (93,[.agg [(.list .node)],.one (.int .i64)]),
 (94,[.one (.list .bool)]),
 (97,[.one (.list (.int .i64)),.one (.int .i64)]),
 (98,[]),
 (99,[.agg [(.list .node)],.one (.int .i64),.one .str]),
 (100,[.agg [(.list .node)],.one (.int .i64)]),
 (101,[.ro [(.list .node)],.one (.int .i64)]),
 (102,[.one (.list (.int .i64)),.one (.int .i64)]),
 (104,[.one .str]),
 (105,[.one .str]),
 (106,[.one (.list (.int .i64)),.one (.int .i64)]),
 (107,[.one (.int .i64)]),
 (108,[.one (.int .i64)]),
 (109,[.one (.list (.int .i64)),.one (.int .i64)]),
 (110,[.one .str]),
 (111,[.one (.int .i64)]),
 (112,[.one .str,.one (.int .i64),.one (.int .i64)]),
 (113,[.one .str,.one (.int .i64)]),
 (114,[.rw [.str,(.int .i64),(.own (.int .i64) false),.bool],.one (.int .i64),.one (.int .i64)]),
 (115,[.rw [.str,(.int .i64),(.own (.int .i64) false),.bool],.one (.int .i64),.one (.int .i64)]),
 (117,[.one (.int .u64)]),
 (118,[.one (.int .i64)]),
 (119,[.one .bool]),
 (120,[.one .str]),
 (121,[.rw [.str,.bool]]),
 (122,[.one .str]),
 (123,[.one (.int .i64)]),
 (124,[.one .str,.one (.int .i64)]),
 (125,[.one .str,.one (.int .i64)]),
 (126,[.one .bool]),
 (127,[.one .str]),
 (128,[.one (.int .i64),.one (.int .i64),.one (.int .i64)]),
 (129,[.agg [(.list .node)],.one (.int .i64)]),
 (133,[.one .str,.one (.int .i64),.one (.int .i64)]),
 (134,[.one .str,.one (.int .i64),.one (.int .u8)]),
 (135,[.one (.list .str)]),
 (141,[.agg [(.list .node)],.one (.int .i64)]),
 (142,[.one (.int .i64),.one .str,.ro [(.list .node)]]),
 (143,[.one (.list (.int .i64)),.one (.list .str),.fn]),
 (144,[.agg [(.list .node)]]),
 (145,[.one (.list (.int .i64)),.one (.int .i64)]),
 (146,[.one (.list (.int .i64))]),
 (147,[.one (.int .i64)]),
 (148,[.one (.int .i64)]),
 (149,[.one (.list (.int .i64))]),
 (150,[.one (.list (.int .i64)),.one (.int .i64)]),
 (152,[.rw [.str,.bool],.one (.int .i64)]),
 (155,[.one (.int .i64)]),
 (156,[.rw [.str,(.int .i64),(.own (.int .i64) false),.bool],.one (.int .i64)]),
 (157,[.one (.list (.int .i64)),.one (.int .i64)]),
 (158,[.one .str,.one (.int .i64)]),
 (159,[.one (.int .i64)]),
 (172,[.ro [(.list .node)],.one (.int .i64)]),
 (173,[.ro [(.list .node)],.one (.int .i64)]),
 (174,[.one (.int .i64),.ro [(.int .i64)]]),
 (175,[.one (.list (.int .i64)),.fn]),
 (176,[.one (.list .bool)]),
 (177,[.rw [.str,.bool]]),
 (178,[.rw [.str,.bool]]),
 (179,[.rw [.str,.bool],.one .str]),
 (180,[.rw [.str,.bool],.one (.int .i64)]),
 (181,[.rw [.str,.bool],.one (.int .u8),.one (.int .i64)]),
 (187,[.one (.int .u64),.one (.int .u64)]),
 (192,[.one (.list (.int .i64)),.fn]),
 (193,[.one .str,.one .str]),
 (198,[.one (.int .u64),.one (.int .u64)])]
noncomputable def OZ:List (Nat×bR):=[(4,O3),(16,Ol),(17,NC),(20,Ou),(21,OD),(22,LO),(23,M5),(24,MJ),(25,NM),(26,Oq),(27,OP),(28,OA),(29,Ot),(30,Ll),(31,OR),(32,Lo),(38,Oc),(39,NT),(46,Oa),(47,OM),(48,M4),(49,Gg),(52,Nb),(53,MV),(54,OO),(56,Of),(57,Oi),(58,La),(60,KU),(61,HC),(62,Oy),(63,Ox),(64,OC),(65,MC),(66,Ov),(67,Ky),(68,OB),(69,OK),(70,M3),(71,Og),(72,Oj),(73,OS),(74,DL),(75,H2),(76,Nn),(77,Ns),(78,MZ),(86,Ld),(87,Lc),(88,Oh),(89,OF),(90,L2),(91,MS),(92,OE),(93,OL),(94,Md),(97,MH),(98,OI),(99,MR),(100,Ny),(101,JI),(102,JM),(104,N5),(105,MO),(106,JW),(107,Ko),(108,N8),(109,GR),(110,NS),(111,Nw),(112,NX),(113,Js),(114,NW),(115,E6),(117,NZ),(118,M1),(119,Nq),(120,MF),(121,MB),(122,Jn),(123,L6),(124,Ks),(125,N4),(126,Ni),(127,Nj),(128,NJ),(129,Kq),(133,J2),(134,JP),(135,L1),(141,MQ),(142,Nu),(143,NF),(144,F2),(145,Mc),(146,J9),(147,Jv),(148,M6),(149,Ju),(150,E3),(152,NK),(155,LY),(156,Me),(157,BJ),(158,MG),(159,Nk),(172,JJ),(173,N2),(174,M7),(175,ML),(176,J0),(177,L9),(178,Ob),(179,ME),(180,NB),(181,JD),(187,Na),(192,Jw),(193,NH),(198,LZ)]
noncomputable def OT:List (Nat×cj):=[(4,OU),(16,MN),(17,LN),(20,MW),(21,NL),(22,Hi),(23,K3),(24,KO),(25,KQ),(26,Nl),(27,LX),(28,N7),(29,NY),(30,H7),(31,Nx),(32,HI),(38,LF),(39,K7),(46,LM),(47,MK),(48,Lm),(49,CY),(52,KT),(53,LE),(54,Nr),(56,MM),(57,N3),(58,Im),(60,Ht),(61,Fa),(62,NQ),(63,NU),(64,L0),(65,K6),(66,M8),(67,H4),(68,NA),(69,NG),(70,LC),(71,L8),(72,MD),(73,MX),(74,A4),(75,FG),(76,KL),(77,LL),(78,Lt),(86,HD),(87,HU),(88,ND),(89,NN),(90,Kx),(91,K0),(92,N6),(93,Nc),(94,LP),(97,K8),(98,NR),(99,K2),(100,Jl),(101,E4),(102,Gi),(104,JC),(106,G0),(107,Fq),(108,JO),(109,BL),(110,Ku),(111,JQ),(112,JV),(113,EX),(114,Jy),(115,BU),(117,Kt),(118,JS),(119,JF),(120,JY),(121,Jz),(122,E5),(123,J1),(124,GE),(125,Kp),(126,J5),(127,J7),(128,JG),(129,D4),(133,Ey),(134,GL),(135,JB),(141,Jj),(142,JH),(143,JK),(144,B2),(145,Jt),(146,Gs),(147,EB),(148,Ji),(149,FP),(150,BZ),(152,Jm),(155,Jo),(156,JR),(157,yh),(158,Jq),(172,E2),(173,Jp),(174,J6),(175,JU),(176,F8),(177,Jh),(178,Kv),(179,JL),(180,J4),(181,GW),(187,Kr),(192,FI),(198,Jg)]
noncomputable def ES (f:FuncId):List PK:=match look f N9 with|some l=>l|none=>[]
noncomputable def rW (f:FuncId):bR:=match look f OZ with|some s=>s|none=>⟨[],[]⟩
noncomputable def G1 (f:FuncId)(args:List lZ):Option (rW f).den:=
 if h:f=105 then h.symm ▸ (show Option (rW 105).den from sY args) else
 if h:f=159 then h.symm ▸ (show Option (rW 159).den from vt args) else
 if h:f=193 then h.symm ▸ (show Option (rW 193).den from xP args) else
 none
noncomputable def E (bar:aD):fA:=⟨fun f=>look f OT,fun t=>look t OW,ES,rW,G1,bar⟩
end Go.Proofs.YtjkokaockhecnaaGreatDoorA
