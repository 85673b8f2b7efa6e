/- The functions, types, parameters and results of the program, as the machine is told of them: definitions alone. -/
import Derived.Test.YtjkokaockhecnaaGreatDoorProg
import Derived.Test.YtjkokaockhecnaaGreatDoorExt
namespace Go.Proofs.YtjkokaockhecnaaGreatDoorA
open Go
set_option linter.unusedVariables false
noncomputable def aw (f:Func):Code:=match f.body with|some c=>c|none=>.skip
noncomputable def H3:bq:=⟨[.one .bool],[]⟩
noncomputable def HJ:ct:=⟨118,aw Go.Proofs.Tryz.f3,[.tmp 6],
 [],
 [(0,[.keep [1,2,7,8,9],.own 8 .str false,.keepR [2008]])],
 [],[],false⟩
noncomputable def HK:bq:=⟨[.one .bool],[]⟩
noncomputable def FV:ct:=⟨70,aw Go.Proofs.Tryz.f15,[.tmp 0],
 [],
 [],
 [],[],false⟩
noncomputable def Ht:bq:=⟨[.one .str],[]⟩
noncomputable def GB:ct:=⟨7,aw Go.Proofs.Tryz.f16,[.tmp 2],
 [],
 [],
 [],[],false⟩
noncomputable def G0:bq:=⟨[.el .arr,.one (.int .i64)],[]⟩
noncomputable def E0:ct:=⟨42,aw Go.Proofs.Tryz.f17,[.cell 6 27,.tmp 7],
 [],
 [(0,[.keep [1,2,3,6,8],.cell 6 6 .arr false,.keepR [3,6]])],
 [],[],false⟩
noncomputable def HN:bq:=⟨[.agg [(.list .node)]],[]⟩
noncomputable def FK:ct:=⟨4,aw Go.Proofs.Tryz.f18,[.cell 0 32],
 [],
 [],
 [],[],false⟩
noncomputable def HV:bq:=⟨[.one .bool,.one (.int .i64)],[]⟩
noncomputable def Hn:ct:=⟨37,aw Go.Proofs.Tryz.f19,[.tmp 8,.tmp 9],
 [],
 [],
 [],[],false⟩
noncomputable def Hr:bq:=⟨[.one (.int .i64)],[]⟩
noncomputable def Gq:ct:=⟨4,aw Go.Proofs.Tryz.f20,[.tmp 2],
 [],
 [],
 [],[],false⟩
noncomputable def HB:bq:=⟨[.one .str],[]⟩
noncomputable def GO:ct:=⟨24,aw Go.Proofs.Tryz.f31,[.tmp 4],
 [],
 [(0,[.keep [0,1,5,6],.own 5 (.int .u8) false,.keepR [2005]])],
 [],[],false⟩
noncomputable def HE:bq:=⟨[.el .arr,.one (.int .i64)],[]⟩
noncomputable def GK:ct:=⟨96,aw Go.Proofs.Tryz.f42,[.cell 6 27,.tmp 7],
 [],
 [(0,[.keep [1,3,6,8,12,13,14],.own 8 .str false,.own 13 .str false,.cell 12 6 .arr false,.cell 6 6 .arr false,.keepR [3,6,12,2008,2013]]),(2,[.keep [1,3,6,8,12,13,14,15],.own 8 .str false,.own 13 .str false,.cell 12 6 .arr false,.cell 6 6 .arr false,.keepR [3,6,12,2008,2013]])],
 [],[],false⟩
noncomputable def HM:bq:=⟨[.el .arr],[]⟩
noncomputable def G8:ct:=⟨10,aw Go.Proofs.Tryz.f43,[.cell 0 27],
 [],
 [],
 [],[],false⟩
noncomputable def Hy:bq:=⟨[.el .arr,.one (.int .i64)],[]⟩
noncomputable def F8:ct:=⟨50,aw Go.Proofs.Tryz.f44,[.cell 10 27,.tmp 11],
 [],
 [],
 [],[],false⟩
noncomputable def Hu:bq:=⟨[.one (.own .str false)],[]⟩
noncomputable def Hi:ct:=⟨12,aw Go.Proofs.Tryz.f45,[.tmp 2],
 [],
 [],
 [],[],false⟩
noncomputable def Gz:bq:=⟨[.one .str],[]⟩
noncomputable def Ft:ct:=⟨22,aw Go.Proofs.Tryz.f46,[.tmp 2],
 [],
 [(0,[.keep [0,3],.keepR []])],
 [],[],false⟩
noncomputable def HI:bq:=⟨[.one .bool],[]⟩
noncomputable def F9:ct:=⟨18,aw Go.Proofs.Tryz.f47,[.tmp 4],
 [],
 [],
 [],[],false⟩
noncomputable def GE:bq:=⟨[.one .bool],[]⟩
noncomputable def EN:ct:=⟨105,aw Go.Proofs.Tryz.f48,[.tmp 6],
 [],
 [(0,[.keep [3,8,9,11,13],.own 9 .str false,.own 11 (.int .i64) false,.keepR [3,2009,2011]])],
 [],[],false⟩
noncomputable def Ac:bq:=⟨[.el .arr,.one .bool],[]⟩
noncomputable def zg:ct:=⟨222,aw Go.Proofs.Tryz.f49,[.cell 6 27,.tmp 7],
 [],
 [(0,[.keep [1,2,3,6,8,9,11,12,13],.own 9 (.int .i64) false,.own 12 .bool false,.cell 6 6 .arr false,.cell 8 6 .arr false,.keepR [3,6,8,40,2009,2012]]),(3,[.keep [1,2,3,6,8,9,11,12,13,14,15,18],.own 9 (.int .i64) false,.own 12 .bool false,.own 15 .str false,.cell 6 6 .arr false,.cell 8 6 .arr false,.keepR [3,6,8,40,2009,2012,2015]]),(6,[.keep [3,6,8,9,11,20],.own 9 (.int .i64) false,.cell 6 6 .arr false,.cell 8 6 .arr false,.keepR [3,6,8,40,2009]])],
 [(39,[.keep [3,6,8,9,11],.own 9 (.int .i64) false,.cell 6 6 .arr false,.cell 8 6 .arr false,.keepR [3,6,8,40,2009]])],[],false⟩
noncomputable def FX:bq:=⟨[.one (.own .str false),.one (.int .i64)],[]⟩
noncomputable def E7:ct:=⟨30,aw Go.Proofs.Tryz.f50,[.tmp 6,.tmp 7],
 [],
 [(0,[.keep [1,3,5,8,16,17],.own 8 .str false,.keepR [3,5,2008]])],
 [],[],false⟩
noncomputable def Hj:bq:=⟨[.one .bool],[]⟩
noncomputable def EQ:ct:=⟨26,aw Go.Proofs.Tryz.f51,[.tmp 4],
 [],
 [(0,[.keep [0,1,12,13],.keepR []])],
 [],[],false⟩
noncomputable def FG:bq:=⟨[.one (.int .i64)],[]⟩
noncomputable def EP:ct:=⟨22,aw Go.Proofs.Tryz.f65,[.tmp 2],
 [],
 [(0,[.keep [0,3,6,7],.keepR []])],
 [],[],false⟩
noncomputable def Hz:bq:=⟨[.one (.int .i64),.one (.int .i64)],[]⟩
noncomputable def GF:ct:=⟨42,aw Go.Proofs.Tryz.f73,[.tmp 6,.tmp 7],
 [],
 [],
 [],[],false⟩
noncomputable def F2:bq:=⟨[.one .bool],[]⟩
noncomputable def EL:ct:=⟨99,aw Go.Proofs.Tryz.f78,[.tmp 2],
 [],
 [(0,[.keep [1,3,4],.own 3 (.int .i64) false,.keepR [1,2003]])],
 [],[],false⟩
noncomputable def HF:bq:=⟨[.one (.own .str false),.one .bool],[]⟩
noncomputable def G1:ct:=⟨29,aw Go.Proofs.Tryz.f82,[.tmp 6,.tmp 7],
 [],
 [],
 [],[],false⟩
noncomputable def HL:bq:=⟨[.one .bool],[]⟩
noncomputable def FR:ct:=⟨220,aw Go.Proofs.Tryz.f83,[.tmp 6],
 [],
 [(0,[.keep [5,7,8,9],.keepR [5]]),(2,[.keep [5,7,8,12,13],.keepR [5]])],
 [],[],false⟩
noncomputable def HC:bq:=⟨[.el .arr],[]⟩
noncomputable def FW:ct:=⟨24,aw Go.Proofs.Tryz.f84,[.cell 2 27],
 [],
 [(0,[.keep [1,2,3,4],.own 3 .arr false,.cell 2 6 .arr false,.keepR [1,2,2003]])],
 [],[],false⟩
noncomputable def HT:bq:=⟨[.one (.own .str false),.one (.int .i64)],[]⟩
noncomputable def GY:ct:=⟨30,aw Go.Proofs.Tryz.f85,[.tmp 6,.tmp 7],
 [],
 [(0,[.keep [1,3,5,8,9],.own 8 .str false,.keepR [3,5,2008]])],
 [],[],false⟩
noncomputable def EE:bq:=⟨[.one .str],[]⟩
noncomputable def Cc:ct:=⟨37,aw Go.Proofs.Tryz.f86,[.tmp 2],
 [],
 [(0,[.keep [0,3,4],.own 4 (.int .u8) false,.keepR [2004]])],
 [(4,[.keep [0,3],.keepR []])],[],false⟩
noncomputable def E6:bq:=⟨[.one (.int .i64),.one (.own .str false),.one (.int .i64)],[]⟩
noncomputable def Db:ct:=⟨64,aw Go.Proofs.Tryz.f87,[.tmp 2,.tmp 3,.tmp 4],
 [],
 [(1,[.keep [0,5,6],.own 5 .str false,.keepR [2005]])],
 [(13,[.keep [0],.keepR []])],[],false⟩
noncomputable def HU:bq:=⟨[.one (.own (.int .i64) false),.one (.int .i64)],[]⟩
noncomputable def FD:ct:=⟨13,aw Go.Proofs.Tryz.f88,[.tmp 4,.tmp 5],
 [],
 [],
 [],[],false⟩
noncomputable def HA:bq:=⟨[.one .bool],[]⟩
noncomputable def GW:ct:=⟨9,aw Go.Proofs.Tryz.f89,[.tmp 2],
 [],
 [],
 [],[],false⟩
noncomputable def Gl:bq:=⟨[.one .str],[]⟩
noncomputable def Fh:ct:=⟨31,aw Go.Proofs.Tryz.f90,[.tmp 2],
 [],
 [(0,[.keep [0,3,4,5],.own 3 .bool false,.keepR [2003]])],
 [],[],false⟩
noncomputable def G5:bq:=⟨[.one (.int .i64),.one .bool],[]⟩
noncomputable def EV:ct:=⟨59,aw Go.Proofs.Tryz.f91,[.tmp 2,.tmp 3],
 [],
 [(0,[.keep [0,4,5],.keepR []])],
 [],[],false⟩
noncomputable def GH:bq:=⟨[.one .str],[]⟩
noncomputable def EW:ct:=⟨18,aw Go.Proofs.Tryz.f92,[.tmp 2],
 [],
 [(0,[.keep [0,3,4],.keepR []])],
 [],[],false⟩
noncomputable def GR:bq:=⟨[.one .str],[]⟩
noncomputable def ES:ct:=⟨52,aw Go.Proofs.Tryz.f93,[.tmp 4],
 [],
 [(1,[.keep [2,5,7,8],.own 5 (.int .i64) false,.own 7 .str false,.keepR [2,2005,2007]])],
 [],[],false⟩
noncomputable def G6:bq:=⟨[.one .str],[]⟩
noncomputable def ER:ct:=⟨34,aw Go.Proofs.Tryz.f94,[.tmp 2],
 [],
 [(0,[.keep [0,3,4],.own 3 (.int .u8) false,.keepR [2003]])],
 [],[],false⟩
noncomputable def HQ:bq:=⟨[.one .bool],[]⟩
noncomputable def Hl:ct:=⟨33,aw Go.Proofs.Tryz.f95,[.tmp 6],
 [],
 [],
 [],[],false⟩
noncomputable def Hv:bq:=⟨[.one .str],[]⟩
noncomputable def GZ:ct:=⟨19,aw Go.Proofs.Tryz.f96,[.tmp 8],
 [],
 [],
 [],[],false⟩
noncomputable def HO:bq:=⟨[.one .str],[]⟩
noncomputable def Gy:ct:=⟨1,aw Go.Proofs.Tryz.f98,[.tmp 0],
 [],
 [],
 [],[],false⟩
noncomputable def F3:bq:=⟨[.one .bool],[]⟩
noncomputable def DF:ct:=⟨18,aw Go.Proofs.Tryz.f100,[.tmp 4],
 [],
 [],
 [],[],false⟩
noncomputable def EA:bq:=⟨[.one (.own (.int .i64) false)],[]⟩
noncomputable def BH:ct:=⟨21,aw Go.Proofs.Tryz.f101,[.tmp 4],
 [],
 [(0,[.keep [0,1,5],.own 5 (.int .i64) false,.keepR [2005]])],
 [],[],false⟩
noncomputable def G2:bq:=⟨[.one (.int .i64)],[]⟩
noncomputable def DD:ct:=⟨6,aw Go.Proofs.Tryz.f108,[.tmp 2],
 [],
 [],
 [],[],false⟩
noncomputable def FY:bq:=⟨[.one .bool],[]⟩
noncomputable def Ez:ct:=⟨9,aw Go.Proofs.Tryz.f111,[.tmp 2],
 [],
 [],
 [],[],false⟩
noncomputable def Gt:bq:=⟨[.one (.int .i64),.one (.int .i64)],[]⟩
noncomputable def Ey:ct:=⟨48,aw Go.Proofs.Tryz.f112,[.tmp 6,.tmp 7],
 [],
 [],
 [],[],false⟩
noncomputable def Gv:bq:=⟨[.one .str],[]⟩
noncomputable def D6:ct:=⟨7,aw Go.Proofs.Tryz.f118,[.tmp 2],
 [],
 [],
 [],[],false⟩
noncomputable def GI:bq:=⟨[.one .str],[]⟩
noncomputable def D9:ct:=⟨4,aw Go.Proofs.Tryz.f119,[.tmp 2],
 [],
 [],
 [],[],false⟩
noncomputable def Ge:bq:=⟨[.one .str],[]⟩
noncomputable def En:ct:=⟨10,aw Go.Proofs.Tryz.f120,[.tmp 2],
 [],
 [],
 [],[],false⟩
noncomputable def Hg:bq:=⟨[.one (.int .i64)],[]⟩
noncomputable def DJ:ct:=⟨21,aw Go.Proofs.Tryz.f122,[.tmp 2],
 [],
 [(0,[.keep [0,3,4],.keepR []])],
 [],[],false⟩
noncomputable def Gu:bq:=⟨[.one .bool],[]⟩
noncomputable def DX:ct:=⟨5,aw Go.Proofs.Tryz.f123,[.tmp 2],
 [],
 [],
 [],[],false⟩
noncomputable def Gk:bq:=⟨[.one .bool],[]⟩
noncomputable def DI:ct:=⟨14,aw Go.Proofs.Tryz.f125,[.tmp 4],
 [],
 [],
 [],[],false⟩
noncomputable def F7:bq:=⟨[.one .str],[]⟩
noncomputable def Eg:ct:=⟨4,aw Go.Proofs.Tryz.f126,[.tmp 2],
 [],
 [],
 [],[],false⟩
noncomputable def FH:bq:=⟨[.one .str],[]⟩
noncomputable def Ea:ct:=⟨10,aw Go.Proofs.Tryz.f127,[.tmp 2],
 [],
 [],
 [],[],false⟩
noncomputable def GL:bq:=⟨[.one .bool],[]⟩
noncomputable def Ej:ct:=⟨15,aw Go.Proofs.Tryz.f128,[.tmp 6],
 [],
 [],
 [],[],false⟩
noncomputable def Dx:bq:=⟨[.one (.own (.int .i64) false)],[]⟩
noncomputable def Bm:ct:=⟨27,aw Go.Proofs.Tryz.f129,[.tmp 4],
 [],
 [(0,[.keep [1,2,5,6],.own 5 (.int .i64) false,.keepR [2,2005]])],
 [],[],false⟩
noncomputable def Gf:bq:=⟨[.one .bool],[]⟩
noncomputable def Dw:ct:=⟨144,aw Go.Proofs.Tryz.f130,[.tmp 8],
 [],
 [(1,[.keep [3,4,6,9,11],.own 9 (.int .i64) false,.keepR [4,6,2009]])],
 [],[],false⟩
noncomputable def F6:bq:=⟨[.one .bool],[]⟩
noncomputable def Eo:ct:=⟨14,aw Go.Proofs.Tryz.f131,[.tmp 4],
 [],
 [],
 [],[],false⟩
noncomputable def F4:bq:=⟨[.one .str],[]⟩
noncomputable def Dv:ct:=⟨167,aw Go.Proofs.Tryz.f132,[.tmp 8],
 [],
 [(0,[.keep [1,3,4,6,9],.keepR [4,6]]),(3,[.keep [4,6,10,12,16,17],.own 10 (.int .i64) false,.own 12 .str false,.keepR [4,6,2010,2012]]),(5,[.keep [3,4,6,10,12,18],.own 10 (.int .i64) false,.own 12 .str false,.keepR [4,6,2010,2012]])],
 [],[],false⟩
noncomputable def Es:bq:=⟨[.one (.int .i64)],[]⟩
noncomputable def Bh:ct:=⟨126,aw Go.Proofs.Tryz.f133,[.tmp 6],
 [],
 [(1,[.keep [0,1,2,13],.keepR []])],
 [],[],false⟩
noncomputable def D3:bq:=⟨[.one (.int .i64)],[]⟩
noncomputable def AN:ct:=⟨27,aw Go.Proofs.Tryz.f134,[.tmp 6],
 [],
 [(0,[.keep [0,1,2,7],.keepR []])],
 [],[],false⟩
noncomputable def GU:bq:=⟨[.one .str],[]⟩
noncomputable def DT:ct:=⟨7,aw Go.Proofs.Tryz.f135,[.tmp 2],
 [],
 [],
 [],[],false⟩
noncomputable def Gm:bq:=⟨[.one .bool],[]⟩
noncomputable def DL:ct:=⟨82,aw Go.Proofs.Tryz.f136,[.tmp 4],
 [],
 [],
 [],[],false⟩
noncomputable def Ep:bq:=⟨[.one .bool],[]⟩
noncomputable def BE:ct:=⟨162,aw Go.Proofs.Tryz.f137,[.tmp 6],
 [],
 [(0,[.keep [0,1,2,7,38,39,40],.own 38 (.int .i64) false,.keepR [7,2038]])],
 [],[],false⟩
noncomputable def DU:bq:=⟨[.one .bool],[]⟩
noncomputable def AD:ct:=⟨87,aw Go.Proofs.Tryz.f138,[.tmp 6],
 [],
 [(0,[.keep [2,7,9],.keepR []])],
 [],[],false⟩
noncomputable def D1:bq:=⟨[.one .bool],[]⟩
noncomputable def AM:ct:=⟨78,aw Go.Proofs.Tryz.f139,[.tmp 6],
 [],
 [(0,[.keep [2,9,45,46],.keepR []])],
 [],[],false⟩
noncomputable def GQ:bq:=⟨[.one .str],[]⟩
noncomputable def Ek:ct:=⟨58,aw Go.Proofs.Tryz.f140,[.tmp 8],
 [],
 [],
 [],[],false⟩
noncomputable def GN:bq:=⟨[.one (.own (.int .i64) false),.one (.int .i64)],[]⟩
noncomputable def Dz:ct:=⟨12,aw Go.Proofs.Tryz.f141,[.tmp 4,.tmp 5],
 [],
 [],
 [],[],false⟩
noncomputable def AO:bq:=⟨[.one .bool],[]⟩
noncomputable def yd:ct:=⟨74,aw Go.Proofs.Tryz.f144,[.tmp 2],
 [],
 [(0,[.keep [1,19,20,21],.keepR [1]]),(2,[.keep [1,41,42,43],.keepR [1]])],
 [],[],false⟩
noncomputable def He:bq:=⟨[.one (.int .i64)],[]⟩
noncomputable def DW:ct:=⟨6,aw Go.Proofs.Tryz.f148,[.tmp 2],
 [],
 [],
 [],[],false⟩
noncomputable def Ha:bq:=⟨[.one .bool],[]⟩
noncomputable def DY:ct:=⟨9,aw Go.Proofs.Tryz.f155,[.tmp 2],
 [],
 [],
 [],[],false⟩
noncomputable def G7:bq:=⟨[.one .bool],[]⟩
noncomputable def Eh:ct:=⟨14,aw Go.Proofs.Tryz.f158,[.tmp 4],
 [],
 [],
 [],[],false⟩
noncomputable def FS:bq:=⟨[.one .str],[]⟩
noncomputable def FP:bq:=⟨[.one .bool],[]⟩
noncomputable def Ed:ct:=⟨12,aw Go.Proofs.Tryz.f160,[.tmp 2],
 [],
 [],
 [],[],false⟩
noncomputable def G9:bq:=⟨[.one .bool],[]⟩
noncomputable def DV:ct:=⟨52,aw Go.Proofs.Tryz.f161,[.tmp 10],
 [],
 [(0,[.keep [0,1,2,3,4,11,12],.keepR []])],
 [],[],false⟩
noncomputable def Hm:bq:=⟨[.one (.int .i64),.one (.int .i64)],[]⟩
noncomputable def DK:ct:=⟨25,aw Go.Proofs.Tryz.f162,[.tmp 4,.tmp 5],
 [],
 [],
 [],[],false⟩
noncomputable def Hk:bq:=⟨[.one .str],[]⟩
noncomputable def Ei:ct:=⟨7,aw Go.Proofs.Tryz.f163,[.tmp 2],
 [],
 [],
 [],[],false⟩
noncomputable def D7:bq:=⟨[.one .bool],[]⟩
noncomputable def As:ct:=⟨56,aw Go.Proofs.Tryz.f164,[.tmp 10],
 [],
 [(0,[.keep [0,2,3,4,11,16,17],.keepR []])],
 [],[],false⟩
noncomputable def Hh:bq:=⟨[.one .bool],[]⟩
noncomputable def Dy:ct:=⟨8,aw Go.Proofs.Tryz.f165,[.tmp 3],
 [],
 [],
 [],[],false⟩
noncomputable def Gj:bq:=⟨[.one .bool],[]⟩
noncomputable def Ew:ct:=⟨9,aw Go.Proofs.Tryz.f166,[.tmp 4],
 [],
 [],
 [],[],false⟩
noncomputable def FZ:bq:=⟨[.ptr .arr,.one .bool],[]⟩
noncomputable def DC:ct:=⟨54,aw Go.Proofs.Tryz.f167,[.tmp 6,.tmp 7],
 [],
 [],
 [],[],false⟩
noncomputable def GV:bq:=⟨[.one (.int .i64),.one .bool],[]⟩
noncomputable def Et:ct:=⟨18,aw Go.Proofs.Tryz.f168,[.tmp 4,.tmp 5],
 [],
 [],
 [],[],false⟩
noncomputable def FC:bq:=⟨[.one .bool],[]⟩
noncomputable def Ef:ct:=⟨18,aw Go.Proofs.Tryz.f169,[.tmp 4],
 [],
 [],
 [],[],false⟩
noncomputable def D4:bq:=⟨[.one (.int .i64)],[]⟩
noncomputable def AH:ct:=⟨23,aw Go.Proofs.Tryz.f170,[.tmp 4],
 [],
 [(0,[.keep [0,1,5],.keepR []])],
 [],[],false⟩
noncomputable def Bq:bq:=⟨[.one .str],[]⟩
noncomputable def xP:ct:=⟨139,aw Go.Proofs.Tryz.f171,[.tmp 8],
 [],
 [(2,[.keep [2,4,9,13,15,16],.own 9 (.int .i64) false,.own 15 .str false,.keepR [4,2009,2015]]),(4,[.keep [2,3,4,15,116,117,118],.own 15 .str false,.own 116 (.int .i64) false,.keepR [4,2015,2116]])],
 [],[],false⟩
noncomputable def DZ:bq:=⟨[.one (.own (.int .i64) false)],[]⟩
noncomputable def Ah:ct:=⟨32,aw Go.Proofs.Tryz.f172,[.tmp 4],
 [],
 [(0,[.keep [1,5,11,12,13],.own 5 (.int .i64) false,.keepR [2005]])],
 [],[],false⟩
noncomputable def FU:bq:=⟨[.one .bool],[]⟩
noncomputable def Em:ct:=⟨36,aw Go.Proofs.Tryz.f173,[.tmp 4],
 [],
 [],
 [],[],false⟩
noncomputable def Eb:bq:=⟨[.one (.int .i64)],[]⟩
noncomputable def zV:ct:=⟨19,aw Go.Proofs.Tryz.f189,[.tmp 4],
 [],
 [(0,[.keep [0,1,7,8],.keepR []])],
 [],[],false⟩
noncomputable def FM:bq:=⟨[.one .str],[]⟩
noncomputable def Ec:ct:=⟨7,aw Go.Proofs.Tryz.f190,[.tmp 2],
 [],
 [],
 [],[],false⟩
noncomputable def FQ:bq:=⟨[.one .str],[]⟩
noncomputable def EB:ct:=⟨7,aw Go.Proofs.Tryz.f191,[.tmp 2],
 [],
 [],
 [],[],false⟩
noncomputable def FN:bq:=⟨[.one .str],[]⟩
noncomputable def H2:List (Nat×iC):=[
 (3,⟨false,1,8,[(.int .i64 0)],some .i64,false,none,0,[],0,[],false,false,false,false⟩),
 (4,⟨false,1,1,[(.bool false)],none,false,none,0,[],0,[],false,true,false,false⟩),
 (5,⟨false,1,1,[(.int .u8 0)],some .u8,false,none,0,[],0,[],false,false,false,false⟩),
 (9,⟨false,1,16,[(.str [])],none,true,none,0,[],0,[],false,false,false,false⟩),
 (23,⟨false,1,24,[.nils],none,false,some .str,9,[(.str [])],16,[],false,false,false,false⟩),
 (25,⟨false,1,24,[.nils],none,false,some .arr,27,[(.int .i64 0),(.int .i64 0),(.int .i64 0),(.str []),(.str []),(.str []),.nils],96,[],false,false,false,false⟩),
 (27,⟨true,7,96,[(.int .i64 0),(.int .i64 0),(.int .i64 0),(.str []),(.str []),(.str []),.nils],none,false,none,0,[],0,[(0,1,3),(1,1,3),(2,1,3),(3,1,9),(4,1,9),(5,1,9),(6,1,25)],false,false,false,false⟩),
 (30,⟨false,1,24,[.nils],none,false,some .node,58,[(.int .i64 0),(.int .i64 0),(.bool false)],24,[],false,false,false,false⟩),
 (32,⟨true,1,24,[.nils],none,false,none,0,[],0,[(0,1,30)],false,false,false,false⟩),
 (34,⟨false,1,8,[(.int .u64 0)],some .u64,false,none,0,[],0,[],false,false,false,false⟩),
 (40,⟨false,1,24,[.nils],none,false,some (.int .i64),3,[(.int .i64 0)],8,[],false,false,false,false⟩),
 (55,⟨false,1,24,[.nils],none,false,some (.int .u8),5,[(.int .u8 0)],1,[],false,false,false,false⟩),
 (58,⟨true,3,24,[(.int .i64 0),(.int .i64 0),(.bool false)],none,false,none,0,[],0,[(0,1,3),(1,1,3),(2,1,4)],true,false,false,false⟩),
 (76,⟨false,1,24,[.nils],none,false,some (.list .str),23,[.nils],24,[],false,false,false,false⟩),
 (131,⟨false,1,24,[.nils],none,false,some .bool,4,[(.bool false)],1,[],false,false,false,false⟩),
 (137,⟨true,1,24,[.nils],none,false,none,0,[],0,[(0,1,32)],false,false,false,false⟩),
 (148,⟨false,1,8,[(.int .u64 0)],some .u64,false,none,0,[],0,[],false,false,false,false⟩)]
noncomputable def G4:List (Nat×List PK):=[
 (3,[.one (.int .i64),.one (.int .i64),.one (.int .i64)]),
 (15,[]),
 (16,[.one (.int .i64)]),
 (17,[.agg [(.list .node)],.one (.int .i64),.one (.list .str)]),
 (18,[]),
 (19,[.agg [(.list .node)],.one (.int .i64),.agg [(.int .i64),(.int .i64),(.int .i64),.str,.str,.str,(.list .arr)],.agg [(.int .i64),(.int .i64),(.int .i64),.str,.str,.str,(.list .arr)]]),
 (20,[.one (.int .i64)]),
 (31,[.one (.int .i64),.one (.int .i64)]),
 (42,[.agg [(.list .node)],.one (.int .i64),.agg [(.int .i64),(.int .i64),(.int .i64),.str,.str,.str,(.list .arr)]]),
 (43,[]),
 (44,[.agg [(.list .node)],.one (.int .i64),.agg [(.int .i64),(.int .i64),(.int .i64),.str,.str,.str,(.list .arr)],.one (.int .i64),.one (.int .i64)]),
 (45,[.agg [(.int .i64),(.int .i64),(.int .i64),.str,.str,.str,(.list .arr)]]),
 (46,[.one (.int .i64)]),
 (47,[.agg [(.list .node)],.one (.int .i64)]),
 (48,[.agg [(.list .node)],.one (.int .i64),.one .str]),
 (49,[.agg [(.list .node)],.one (.int .i64),.one (.list .str)]),
 (50,[.agg [(.list .node)],.one (.int .i64),.agg [(.int .i64),(.int .i64),(.int .i64),.str,.str,.str,(.list .arr)]]),
 (51,[.one (.list .str),.one (.list .str)]),
 (65,[.one .str]),
 (73,[.one .str,.one (.int .i64),.one (.int .i64)]),
 (78,[.agg [(.list .node)]]),
 (82,[.agg [(.list .node)],.one (.int .i64),.agg [(.int .i64),(.int .i64),(.int .i64),.str,.str,.str,(.list .arr)]]),
 (83,[.agg [(.list .node)],.one (.int .i64),.agg [(.int .i64),(.int .i64),(.int .i64),.str,.str,.str,(.list .arr)]]),
 (84,[.agg [(.int .i64),(.int .i64),(.int .i64),.str,.str,.str,(.list .arr)]]),
 (85,[.agg [(.list .node)],.one (.int .i64),.agg [(.int .i64),(.int .i64),(.int .i64),.str,.str,.str,(.list .arr)]]),
 (86,[.one (.int .i64)]),
 (87,[.one .str]),
 (88,[.agg [(.list .node)],.one (.int .i64)]),
 (89,[.one (.int .i64)]),
 (90,[.one (.list .str)]),
 (91,[.one .str]),
 (92,[.one (.list .str)]),
 (93,[.agg [(.list .node)],.one (.int .i64)]),
 (94,[.one (.list .bool)]),
 (95,[.agg [(.list .node)],.one (.int .i64),.agg [(.int .i64),(.int .i64),(.int .i64),.str,.str,.str,(.list .arr)]]),
 (96,[.agg [(.list .node)],.one (.int .i64),.ro [(.int .i64),(.int .i64),(.int .i64),.str,.str,.str,(.list .arr)],.one (.int .i64)]),
 (98,[]),
 (100,[.agg [(.list .node)],.one (.int .i64)]),
 (101,[.ro [(.list .node)],.one (.int .i64)]),
 (108,[.one (.int .i64)]),
 (111,[.one (.int .i64)]),
 (112,[.one .str,.one (.int .i64),.one (.int .i64)]),
 (118,[.one (.int .i64)]),
 (119,[.one .bool]),
 (120,[.one .str]),
 (122,[.one .str]),
 (123,[.one (.int .i64)]),
 (125,[.one .str,.one (.int .i64)]),
 (126,[.one .bool]),
 (127,[.one .str]),
 (128,[.one (.int .i64),.one (.int .i64),.one (.int .i64)]),
 (129,[.agg [(.list .node)],.one (.int .i64)]),
 (130,[.agg [(.list .node)],.one (.int .i64),.agg [(.int .i64),(.int .i64),(.int .i64),.str,.str,.str,(.list .arr)],.one (.int .i64)]),
 (131,[.agg [(.int .i64),(.int .i64),(.int .i64),.str,.str,.str,(.list .arr)],.one (.int .i64)]),
 (132,[.agg [(.list .node)],.one (.int .i64),.agg [(.int .i64),(.int .i64),(.int .i64),.str,.str,.str,(.list .arr)],.one (.int .i64)]),
 (133,[.one .str,.one (.int .i64),.one (.int .i64)]),
 (134,[.one .str,.one (.int .i64),.one (.int .u8)]),
 (135,[.one (.list .str)]),
 (136,[.ro [(.int .i64),(.int .i64),.bool],.ro [(.int .i64),(.int .i64),(.int .i64),.str,.str,.str,(.list .arr)]]),
 (137,[.ro [(.list .node)],.one (.int .i64),.ro [(.int .i64),(.int .i64),(.int .i64),.str,.str,.str,(.list .arr)]]),
 (138,[.ro [(.list .node)],.one (.int .i64),.ro [(.int .i64),(.int .i64),(.int .i64),.str,.str,.str,(.list .arr)]]),
 (139,[.ro [(.list .node)],.one (.int .i64),.ro [(.int .i64),(.int .i64),(.int .i64),.str,.str,.str,(.list .arr)]]),
 (140,[.agg [(.list .node)],.one (.int .i64),.ro [(.int .i64),(.int .i64),(.int .i64),.str,.str,.str,(.list .arr)],.one (.int .i64)]),
 (141,[.agg [(.list .node)],.one (.int .i64)]),
 (144,[.agg [(.list .node)]]),
 (148,[.one (.int .i64)]),
 (155,[.one (.int .i64)]),
 (158,[.one .str,.one (.int .i64)]),
 (159,[.one (.int .i64)]),
 (160,[.agg [(.int .i64),(.int .i64),(.int .i64),.str,.str,.str,(.list .arr)]]),
 (161,[.one .str,.one (.int .i64),.one (.int .i64),.one (.int .i64),.one (.int .i64)]),
 (162,[.agg [(.int .i64),(.int .i64),(.int .i64),.str,.str,.str,(.list .arr)],.one (.int .i64)]),
 (163,[.one (.list .str)]),
 (164,[.one .str,.one (.int .i64),.one (.int .i64),.one (.int .i64),.one (.int .i64)]),
 (165,[.agg [(.int .i64),(.int .i64),(.int .i64),.str,.str,.str,(.list .arr)],.ro [(.int .i64)]]),
 (166,[.one (.list .arr),.fn]),
 (167,[.ro [(.list .node)],.one (.int .i64),.ro [(.int .i64),(.int .i64),(.int .i64),.str,.str,.str,(.list .arr)]]),
 (168,[.one .str,.one (.int .i64)]),
 (169,[.ro [(.int .i64),(.int .i64),(.int .i64),.str,.str,.str,(.list .arr)],.one (.int .i64)]),
 (170,[.ro [(.int .i64),(.int .i64),(.int .i64),.str,.str,.str,(.list .arr)],.one (.int .i64)]),
 (171,[.agg [(.list .node)],.one (.int .i64),.ro [(.int .i64),(.int .i64),(.int .i64),.str,.str,.str,(.list .arr)],.one (.int .i64)]),
 (172,[.ro [(.list .node)],.one (.int .i64)]),
 (173,[.ro [(.list .node)],.one (.int .i64)]),
 (189,[.one (.list .arr),.fn]),
 (190,[.one (.list .str)]),
 (191,[.one (.list .str)]),
 (200,[.one (.list .str),.one .str])]
noncomputable def H9:List (Nat×bq):=[(3,H3),(15,HK),(16,Ht),(17,G0),(18,HN),(19,HV),(20,Hr),(31,HB),(42,HE),(43,HM),(44,Hy),(45,Hu),(46,Gz),(47,HI),(48,GE),(49,Ac),(50,FX),(51,Hj),(65,FG),(73,Hz),(78,F2),(82,HF),(83,HL),(84,HC),(85,HT),(86,EE),(87,E6),(88,HU),(89,HA),(90,Gl),(91,G5),(92,GH),(93,GR),(94,G6),(95,HQ),(96,Hv),(98,HO),(100,F3),(101,EA),(108,G2),(111,FY),(112,Gt),(118,Gv),(119,GI),(120,Ge),(122,Hg),(123,Gu),(125,Gk),(126,F7),(127,FH),(128,GL),(129,Dx),(130,Gf),(131,F6),(132,F4),(133,Es),(134,D3),(135,GU),(136,Gm),(137,Ep),(138,DU),(139,D1),(140,GQ),(141,GN),(144,AO),(148,He),(155,Ha),(158,G7),(159,FS),(160,FP),(161,G9),(162,Hm),(163,Hk),(164,D7),(165,Hh),(166,Gj),(167,FZ),(168,GV),(169,FC),(170,D4),(171,Bq),(172,DZ),(173,FU),(189,Eb),(190,FM),(191,FQ),(200,FN)]
noncomputable def H5:List (Nat×ct):=[(3,HJ),(15,FV),(16,GB),(17,E0),(18,FK),(19,Hn),(20,Gq),(31,GO),(42,GK),(43,G8),(44,F8),(45,Hi),(46,Ft),(47,F9),(48,EN),(49,zg),(50,E7),(51,EQ),(65,EP),(73,GF),(78,EL),(82,G1),(83,FR),(84,FW),(85,GY),(86,Cc),(87,Db),(88,FD),(89,GW),(90,Fh),(91,EV),(92,EW),(93,ES),(94,ER),(95,Hl),(96,GZ),(98,Gy),(100,DF),(101,BH),(108,DD),(111,Ez),(112,Ey),(118,D6),(119,D9),(120,En),(122,DJ),(123,DX),(125,DI),(126,Eg),(127,Ea),(128,Ej),(129,Bm),(130,Dw),(131,Eo),(132,Dv),(133,Bh),(134,AN),(135,DT),(136,DL),(137,BE),(138,AD),(139,AM),(140,Ek),(141,Dz),(144,yd),(148,DW),(155,DY),(158,Eh),(160,Ed),(161,DV),(162,DK),(163,Ei),(164,As),(165,Dy),(166,Ew),(167,DC),(168,Et),(169,Ef),(170,AH),(171,xP),(172,Ah),(173,Em),(189,zV),(190,Ec),(191,EB)]
noncomputable def zY (f:FuncId):List PK:=match look f G4 with|some l=>l|none=>[]
noncomputable def rS (f:FuncId):bq:=match look f H9 with|some s=>s|none=>⟨[],[]⟩
noncomputable def Bj (f:FuncId)(args:List mo):Option (rS f).den:=
 if h:f=159 then h.symm ▸ (show Option (rS 159).den from sn args) else
 if h:f=200 then h.symm ▸ (show Option (rS 200).den from qN args) else
 none
noncomputable def E (bar:aU):ew:=⟨fun f=>look f H5,fun t=>look t H2,zY,rS,Bj,bar⟩
end Go.Proofs.YtjkokaockhecnaaGreatDoorA
