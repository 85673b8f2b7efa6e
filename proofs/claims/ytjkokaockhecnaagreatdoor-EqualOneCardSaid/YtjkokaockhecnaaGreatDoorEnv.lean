/- The functions, types, parameters and results of the program, as the machine is told of them: definitions alone. -/
import Derived.Test.YtjkokaockhecnaaGreatDoorProg
import Derived.Test.YtjkokaockhecnaaGreatDoorExt
namespace Go.Proofs.YtjkokaockhecnaaGreatDoorA
open Go
set_option linter.unusedVariables false
noncomputable def aw (f:Func):Code:=match f.body with|some c=>c|none=>.skip
noncomputable def H3:bq:=⟨[.one .bool],[]⟩
noncomputable def HE:ct:=⟨118,aw Go.Proofs.Tryz.f3,[.tmp 6],
 [],
 [(0,[.keep [1,2,7,8,9],.own 8 .str false,.keepR [2008]])],
 [],[],false⟩
noncomputable def HA:bq:=⟨[.one .bool],[]⟩
noncomputable def G9:ct:=⟨70,aw Go.Proofs.Tryz.f15,[.tmp 0],
 [],
 [],
 [],[],false⟩
noncomputable def HW:bq:=⟨[.one .str],[]⟩
noncomputable def G1:ct:=⟨7,aw Go.Proofs.Tryz.f16,[.tmp 2],
 [],
 [],
 [],[],false⟩
noncomputable def G8:bq:=⟨[.el .arr,.one (.int .i64)],[]⟩
noncomputable def EM:ct:=⟨42,aw Go.Proofs.Tryz.f17,[.cell 6 27,.tmp 7],
 [],
 [(0,[.keep [1,2,3,6,8],.cell 6 6 .arr false,.keepR [3,6]])],
 [],[],false⟩
noncomputable def HN:bq:=⟨[.agg [(.list .node)]],[]⟩
noncomputable def F6:ct:=⟨4,aw Go.Proofs.Tryz.f18,[.cell 0 32],
 [],
 [],
 [],[],false⟩
noncomputable def HO:bq:=⟨[.one .bool,.one (.int .i64)],[]⟩
noncomputable def FD:ct:=⟨37,aw Go.Proofs.Tryz.f19,[.tmp 8,.tmp 9],
 [],
 [],
 [],[],false⟩
noncomputable def HH:bq:=⟨[.one (.int .i64)],[]⟩
noncomputable def Gn:ct:=⟨4,aw Go.Proofs.Tryz.f20,[.tmp 2],
 [],
 [],
 [],[],false⟩
noncomputable def HJ:bq:=⟨[.one .str],[]⟩
noncomputable def F4:ct:=⟨24,aw Go.Proofs.Tryz.f31,[.tmp 4],
 [],
 [(0,[.keep [0,1,5,6],.own 5 (.int .u8) false,.keepR [2005]])],
 [],[],false⟩
noncomputable def HF:bq:=⟨[.el .arr,.one (.int .i64)],[]⟩
noncomputable def FP:ct:=⟨96,aw Go.Proofs.Tryz.f42,[.cell 6 27,.tmp 7],
 [],
 [(0,[.keep [1,3,6,8,12,13,14],.own 8 .str false,.own 13 .str false,.cell 12 6 .arr false,.cell 6 6 .arr false,.keepR [3,6,12,2008,2013]]),(2,[.keep [1,3,6,8,12,13,14,15],.own 8 .str false,.own 13 .str false,.cell 12 6 .arr false,.cell 6 6 .arr false,.keepR [3,6,12,2008,2013]])],
 [],[],false⟩
noncomputable def Hy:bq:=⟨[.el .arr],[]⟩
noncomputable def GZ:ct:=⟨10,aw Go.Proofs.Tryz.f43,[.cell 0 27],
 [],
 [],
 [],[],false⟩
noncomputable def HC:bq:=⟨[.el .arr,.one (.int .i64)],[]⟩
noncomputable def GN:ct:=⟨50,aw Go.Proofs.Tryz.f44,[.cell 10 27,.tmp 11],
 [],
 [],
 [],[],false⟩
noncomputable def Hz:bq:=⟨[.one (.own .str false)],[]⟩
noncomputable def G4:ct:=⟨12,aw Go.Proofs.Tryz.f45,[.tmp 2],
 [],
 [],
 [],[],false⟩
noncomputable def Hf:bq:=⟨[.one .str],[]⟩
noncomputable def EJ:ct:=⟨22,aw Go.Proofs.Tryz.f46,[.tmp 2],
 [],
 [(0,[.keep [0,3],.keepR []])],
 [],[],false⟩
noncomputable def HL:bq:=⟨[.one .bool],[]⟩
noncomputable def Hg:ct:=⟨18,aw Go.Proofs.Tryz.f47,[.tmp 4],
 [],
 [],
 [],[],false⟩
noncomputable def FM:bq:=⟨[.one .bool],[]⟩
noncomputable def Fh:ct:=⟨105,aw Go.Proofs.Tryz.f48,[.tmp 6],
 [],
 [(0,[.keep [3,8,9,11,13],.own 9 .str false,.own 11 (.int .i64) false,.keepR [3,2009,2011]])],
 [],[],false⟩
noncomputable def BE:bq:=⟨[.el .arr,.one .bool],[]⟩
noncomputable def za:ct:=⟨222,aw Go.Proofs.Tryz.f49,[.cell 6 27,.tmp 7],
 [],
 [(0,[.keep [1,2,3,6,8,9,11,12,13],.own 9 (.int .i64) false,.own 12 .bool false,.cell 6 6 .arr false,.cell 8 6 .arr false,.keepR [3,6,8,40,2009,2012]]),(3,[.keep [1,2,3,6,8,9,11,12,13,14,15,18],.own 9 (.int .i64) false,.own 12 .bool false,.own 15 .str false,.cell 6 6 .arr false,.cell 8 6 .arr false,.keepR [3,6,8,40,2009,2012,2015]]),(6,[.keep [3,6,8,9,11,20],.own 9 (.int .i64) false,.cell 6 6 .arr false,.cell 8 6 .arr false,.keepR [3,6,8,40,2009]])],
 [(39,[.keep [3,6,8,9,11],.own 9 (.int .i64) false,.cell 6 6 .arr false,.cell 8 6 .arr false,.keepR [3,6,8,40,2009]])],[],false⟩
noncomputable def FN:bq:=⟨[.one (.own .str false),.one (.int .i64)],[]⟩
noncomputable def EH:ct:=⟨30,aw Go.Proofs.Tryz.f50,[.tmp 6,.tmp 7],
 [],
 [(0,[.keep [1,3,5,8,16,17],.own 8 .str false,.keepR [3,5,2008]])],
 [],[],false⟩
noncomputable def F2:bq:=⟨[.one .bool],[]⟩
noncomputable def E1:ct:=⟨26,aw Go.Proofs.Tryz.f51,[.tmp 4],
 [],
 [(0,[.keep [0,1,12,13],.keepR []])],
 [],[],false⟩
noncomputable def Hi:bq:=⟨[.one (.int .i64)],[]⟩
noncomputable def Fv:ct:=⟨22,aw Go.Proofs.Tryz.f65,[.tmp 2],
 [],
 [(0,[.keep [0,3,6,7],.keepR []])],
 [],[],false⟩
noncomputable def HB:bq:=⟨[.one (.int .i64),.one (.int .i64)],[]⟩
noncomputable def GO:ct:=⟨42,aw Go.Proofs.Tryz.f73,[.tmp 6,.tmp 7],
 [],
 [],
 [],[],false⟩
noncomputable def Hm:bq:=⟨[.one .bool],[]⟩
noncomputable def EW:ct:=⟨99,aw Go.Proofs.Tryz.f78,[.tmp 2],
 [],
 [(0,[.keep [1,3,4],.own 3 (.int .i64) false,.keepR [1,2003]])],
 [],[],false⟩
noncomputable def HS:bq:=⟨[.one (.own .str false),.one .bool],[]⟩
noncomputable def F5:ct:=⟨29,aw Go.Proofs.Tryz.f82,[.tmp 6,.tmp 7],
 [],
 [],
 [],[],false⟩
noncomputable def Hu:bq:=⟨[.one .bool],[]⟩
noncomputable def Gv:ct:=⟨220,aw Go.Proofs.Tryz.f83,[.tmp 6],
 [],
 [(0,[.keep [5,7,8,9],.keepR [5]]),(2,[.keep [5,7,8,12,13],.keepR [5]])],
 [],[],false⟩
noncomputable def Hw:bq:=⟨[.el .arr],[]⟩
noncomputable def Gi:ct:=⟨24,aw Go.Proofs.Tryz.f84,[.cell 2 27],
 [],
 [(0,[.keep [1,2,3,4],.own 3 .arr false,.cell 2 6 .arr false,.keepR [1,2,2003]])],
 [],[],false⟩
noncomputable def Hr:bq:=⟨[.one (.own .str false),.one (.int .i64)],[]⟩
noncomputable def F3:ct:=⟨30,aw Go.Proofs.Tryz.f85,[.tmp 6,.tmp 7],
 [],
 [(0,[.keep [1,3,5,8,9],.own 8 .str false,.keepR [3,5,2008]])],
 [],[],false⟩
noncomputable def ES:bq:=⟨[.one .str],[]⟩
noncomputable def BU:ct:=⟨37,aw Go.Proofs.Tryz.f86,[.tmp 2],
 [],
 [(0,[.keep [0,3,4],.own 4 (.int .u8) false,.keepR [2004]])],
 [(4,[.keep [0,3],.keepR []])],[],false⟩
noncomputable def E2:bq:=⟨[.one (.int .i64),.one (.own .str false),.one (.int .i64)],[]⟩
noncomputable def C6:ct:=⟨64,aw Go.Proofs.Tryz.f87,[.tmp 2,.tmp 3,.tmp 4],
 [],
 [(1,[.keep [0,5,6],.own 5 .str false,.keepR [2005]])],
 [(13,[.keep [0],.keepR []])],[],false⟩
noncomputable def Ht:bq:=⟨[.one (.own (.int .i64) false),.one (.int .i64)],[]⟩
noncomputable def Gw:ct:=⟨13,aw Go.Proofs.Tryz.f88,[.tmp 4,.tmp 5],
 [],
 [],
 [],[],false⟩
noncomputable def HK:bq:=⟨[.one .bool],[]⟩
noncomputable def F9:ct:=⟨9,aw Go.Proofs.Tryz.f89,[.tmp 2],
 [],
 [],
 [],[],false⟩
noncomputable def Hl:bq:=⟨[.one .str],[]⟩
noncomputable def ER:ct:=⟨31,aw Go.Proofs.Tryz.f90,[.tmp 2],
 [],
 [(0,[.keep [0,3,4,5],.own 3 .bool false,.keepR [2003]])],
 [],[],false⟩
noncomputable def F7:bq:=⟨[.one (.int .i64),.one .bool],[]⟩
noncomputable def E4:ct:=⟨59,aw Go.Proofs.Tryz.f91,[.tmp 2,.tmp 3],
 [],
 [(0,[.keep [0,4,5],.keepR []])],
 [],[],false⟩
noncomputable def Gu:bq:=⟨[.one .str],[]⟩
noncomputable def Fq:ct:=⟨18,aw Go.Proofs.Tryz.f92,[.tmp 2],
 [],
 [(0,[.keep [0,3,4],.keepR []])],
 [],[],false⟩
noncomputable def G5:bq:=⟨[.one .str],[]⟩
noncomputable def Fa:ct:=⟨52,aw Go.Proofs.Tryz.f93,[.tmp 4],
 [],
 [(1,[.keep [2,5,7,8],.own 5 (.int .i64) false,.own 7 .str false,.keepR [2,2005,2007]])],
 [],[],false⟩
noncomputable def Hj:bq:=⟨[.one .str],[]⟩
noncomputable def EF:ct:=⟨34,aw Go.Proofs.Tryz.f94,[.tmp 2],
 [],
 [(0,[.keep [0,3,4],.own 3 (.int .u8) false,.keepR [2003]])],
 [],[],false⟩
noncomputable def HT:bq:=⟨[.one .bool],[]⟩
noncomputable def Gy:ct:=⟨33,aw Go.Proofs.Tryz.f95,[.tmp 6],
 [],
 [],
 [],[],false⟩
noncomputable def HU:bq:=⟨[.one .str],[]⟩
noncomputable def Gf:ct:=⟨19,aw Go.Proofs.Tryz.f96,[.tmp 8],
 [],
 [],
 [],[],false⟩
noncomputable def HM:bq:=⟨[.one .str],[]⟩
noncomputable def GE:ct:=⟨1,aw Go.Proofs.Tryz.f98,[.tmp 0],
 [],
 [],
 [],[],false⟩
noncomputable def FG:bq:=⟨[.one .bool],[]⟩
noncomputable def Ew:ct:=⟨18,aw Go.Proofs.Tryz.f100,[.tmp 4],
 [],
 [],
 [],[],false⟩
noncomputable def Et:bq:=⟨[.one (.own (.int .i64) false)],[]⟩
noncomputable def Ax:ct:=⟨21,aw Go.Proofs.Tryz.f101,[.tmp 4],
 [],
 [(0,[.keep [0,1,5],.own 5 (.int .i64) false,.keepR [2005]])],
 [],[],false⟩
noncomputable def F8:bq:=⟨[.one (.int .i64)],[]⟩
noncomputable def D9:ct:=⟨6,aw Go.Proofs.Tryz.f108,[.tmp 2],
 [],
 [],
 [],[],false⟩
noncomputable def G6:bq:=⟨[.one .bool],[]⟩
noncomputable def Ek:ct:=⟨9,aw Go.Proofs.Tryz.f111,[.tmp 2],
 [],
 [],
 [],[],false⟩
noncomputable def GI:bq:=⟨[.one (.int .i64),.one (.int .i64)],[]⟩
noncomputable def DV:ct:=⟨48,aw Go.Proofs.Tryz.f112,[.tmp 6,.tmp 7],
 [],
 [],
 [],[],false⟩
noncomputable def FU:bq:=⟨[.one .str],[]⟩
noncomputable def Ep:ct:=⟨7,aw Go.Proofs.Tryz.f118,[.tmp 2],
 [],
 [],
 [],[],false⟩
noncomputable def FQ:bq:=⟨[.one .str],[]⟩
noncomputable def En:ct:=⟨4,aw Go.Proofs.Tryz.f119,[.tmp 2],
 [],
 [],
 [],[],false⟩
noncomputable def FS:bq:=⟨[.one .str],[]⟩
noncomputable def Ed:ct:=⟨10,aw Go.Proofs.Tryz.f120,[.tmp 2],
 [],
 [],
 [],[],false⟩
noncomputable def GW:bq:=⟨[.one (.int .i64)],[]⟩
noncomputable def Ez:ct:=⟨21,aw Go.Proofs.Tryz.f122,[.tmp 2],
 [],
 [(0,[.keep [0,3,4],.keepR []])],
 [],[],false⟩
noncomputable def FI:bq:=⟨[.one .bool],[]⟩
noncomputable def Es:ct:=⟨5,aw Go.Proofs.Tryz.f123,[.tmp 2],
 [],
 [],
 [],[],false⟩
noncomputable def Gl:bq:=⟨[.one .bool],[]⟩
noncomputable def Em:ct:=⟨14,aw Go.Proofs.Tryz.f125,[.tmp 4],
 [],
 [],
 [],[],false⟩
noncomputable def Gs:bq:=⟨[.one .str],[]⟩
noncomputable def DL:ct:=⟨4,aw Go.Proofs.Tryz.f126,[.tmp 2],
 [],
 [],
 [],[],false⟩
noncomputable def GU:bq:=⟨[.one .str],[]⟩
noncomputable def D7:ct:=⟨10,aw Go.Proofs.Tryz.f127,[.tmp 2],
 [],
 [],
 [],[],false⟩
noncomputable def GL:bq:=⟨[.one .bool],[]⟩
noncomputable def DZ:ct:=⟨15,aw Go.Proofs.Tryz.f128,[.tmp 6],
 [],
 [],
 [],[],false⟩
noncomputable def D1:bq:=⟨[.one (.own (.int .i64) false)],[]⟩
noncomputable def By:ct:=⟨27,aw Go.Proofs.Tryz.f129,[.tmp 4],
 [],
 [(0,[.keep [1,2,5,6],.own 5 (.int .i64) false,.keepR [2,2005]])],
 [],[],false⟩
noncomputable def He:bq:=⟨[.one .bool],[]⟩
noncomputable def D5:ct:=⟨144,aw Go.Proofs.Tryz.f130,[.tmp 8],
 [],
 [(1,[.keep [3,4,6,9,11],.own 9 (.int .i64) false,.keepR [4,6,2009]])],
 [],[],false⟩
noncomputable def GY:bq:=⟨[.one .bool],[]⟩
noncomputable def Eu:ct:=⟨14,aw Go.Proofs.Tryz.f131,[.tmp 4],
 [],
 [],
 [],[],false⟩
noncomputable def GB:bq:=⟨[.one .str],[]⟩
noncomputable def DT:ct:=⟨167,aw Go.Proofs.Tryz.f132,[.tmp 8],
 [],
 [(0,[.keep [1,3,4,6,9],.keepR [4,6]]),(3,[.keep [4,6,10,12,16,17],.own 10 (.int .i64) false,.own 12 .str false,.keepR [4,6,2010,2012]]),(5,[.keep [3,4,6,10,12,18],.own 10 (.int .i64) false,.own 12 .str false,.keepR [4,6,2010,2012]])],
 [],[],false⟩
noncomputable def Ey:bq:=⟨[.one (.int .i64)],[]⟩
noncomputable def BO:ct:=⟨126,aw Go.Proofs.Tryz.f133,[.tmp 6],
 [],
 [(1,[.keep [0,1,2,13],.keepR []])],
 [],[],false⟩
noncomputable def DN:bq:=⟨[.one (.int .i64)],[]⟩
noncomputable def zB:ct:=⟨27,aw Go.Proofs.Tryz.f134,[.tmp 6],
 [],
 [(0,[.keep [0,1,2,7],.keepR []])],
 [],[],false⟩
noncomputable def FZ:bq:=⟨[.one .str],[]⟩
noncomputable def Eo:ct:=⟨7,aw Go.Proofs.Tryz.f135,[.tmp 2],
 [],
 [],
 [],[],false⟩
noncomputable def Ha:bq:=⟨[.one .bool],[]⟩
noncomputable def Eh:ct:=⟨82,aw Go.Proofs.Tryz.f136,[.tmp 4],
 [],
 [],
 [],[],false⟩
noncomputable def Dx:bq:=⟨[.one .bool],[]⟩
noncomputable def Bn:ct:=⟨162,aw Go.Proofs.Tryz.f137,[.tmp 6],
 [],
 [(0,[.keep [0,1,2,7,38,39,40],.own 38 (.int .i64) false,.keepR [7,2038]])],
 [],[],false⟩
noncomputable def Eg:bq:=⟨[.one .bool],[]⟩
noncomputable def AE:ct:=⟨87,aw Go.Proofs.Tryz.f138,[.tmp 6],
 [],
 [(0,[.keep [2,7,9],.keepR []])],
 [],[],false⟩
noncomputable def Ea:bq:=⟨[.one .bool],[]⟩
noncomputable def AU:ct:=⟨78,aw Go.Proofs.Tryz.f139,[.tmp 6],
 [],
 [(0,[.keep [2,9,45,46],.keepR []])],
 [],[],false⟩
noncomputable def G0:bq:=⟨[.one .str],[]⟩
noncomputable def Eb:ct:=⟨58,aw Go.Proofs.Tryz.f140,[.tmp 8],
 [],
 [],
 [],[],false⟩
noncomputable def GP:bq:=⟨[.one (.own (.int .i64) false),.one (.int .i64)],[]⟩
noncomputable def DG:ct:=⟨12,aw Go.Proofs.Tryz.f141,[.tmp 4,.tmp 5],
 [],
 [],
 [],[],false⟩
noncomputable def AC:bq:=⟨[.one .bool],[]⟩
noncomputable def ym:ct:=⟨74,aw Go.Proofs.Tryz.f144,[.tmp 2],
 [],
 [(0,[.keep [1,19,20,21],.keepR [1]]),(2,[.keep [1,41,42,43],.keepR [1]])],
 [],[],false⟩
noncomputable def Gk:bq:=⟨[.one (.int .i64)],[]⟩
noncomputable def DY:ct:=⟨6,aw Go.Proofs.Tryz.f148,[.tmp 2],
 [],
 [],
 [],[],false⟩
noncomputable def Gx:bq:=⟨[.one .bool],[]⟩
noncomputable def DI:ct:=⟨9,aw Go.Proofs.Tryz.f155,[.tmp 2],
 [],
 [],
 [],[],false⟩
noncomputable def FH:bq:=⟨[.one .bool],[]⟩
noncomputable def DC:ct:=⟨14,aw Go.Proofs.Tryz.f158,[.tmp 4],
 [],
 [],
 [],[],false⟩
noncomputable def Gj:bq:=⟨[.one .str],[]⟩
noncomputable def GH:bq:=⟨[.one .bool],[]⟩
noncomputable def Dv:ct:=⟨12,aw Go.Proofs.Tryz.f160,[.tmp 2],
 [],
 [],
 [],[],false⟩
noncomputable def FK:bq:=⟨[.one .bool],[]⟩
noncomputable def Dz:ct:=⟨52,aw Go.Proofs.Tryz.f161,[.tmp 10],
 [],
 [(0,[.keep [0,1,2,3,4,11,12],.keepR []])],
 [],[],false⟩
noncomputable def FV:bq:=⟨[.one (.int .i64),.one (.int .i64)],[]⟩
noncomputable def Dw:ct:=⟨25,aw Go.Proofs.Tryz.f162,[.tmp 4,.tmp 5],
 [],
 [],
 [],[],false⟩
noncomputable def Gg:bq:=⟨[.one .str],[]⟩
noncomputable def Ef:ct:=⟨7,aw Go.Proofs.Tryz.f163,[.tmp 2],
 [],
 [],
 [],[],false⟩
noncomputable def Ec:bq:=⟨[.one .bool],[]⟩
noncomputable def BL:ct:=⟨56,aw Go.Proofs.Tryz.f164,[.tmp 10],
 [],
 [(0,[.keep [0,2,3,4,11,16,17],.keepR []])],
 [],[],false⟩
noncomputable def GR:bq:=⟨[.one .bool],[]⟩
noncomputable def D3:ct:=⟨8,aw Go.Proofs.Tryz.f165,[.tmp 3],
 [],
 [],
 [],[],false⟩
noncomputable def GM:bq:=⟨[.one .bool],[]⟩
noncomputable def EA:ct:=⟨9,aw Go.Proofs.Tryz.f166,[.tmp 4],
 [],
 [],
 [],[],false⟩
noncomputable def FW:bq:=⟨[.ptr .arr,.one .bool],[]⟩
noncomputable def DU:ct:=⟨54,aw Go.Proofs.Tryz.f167,[.tmp 6,.tmp 7],
 [],
 [],
 [],[],false⟩
noncomputable def FY:bq:=⟨[.one (.int .i64),.one .bool],[]⟩
noncomputable def Ej:ct:=⟨18,aw Go.Proofs.Tryz.f168,[.tmp 4,.tmp 5],
 [],
 [],
 [],[],false⟩
noncomputable def Ge:bq:=⟨[.one .bool],[]⟩
noncomputable def DJ:ct:=⟨18,aw Go.Proofs.Tryz.f169,[.tmp 4],
 [],
 [],
 [],[],false⟩
noncomputable def DF:bq:=⟨[.one (.int .i64)],[]⟩
noncomputable def zw:ct:=⟨23,aw Go.Proofs.Tryz.f170,[.tmp 4],
 [],
 [(0,[.keep [0,1,5],.keepR []])],
 [],[],false⟩
noncomputable def zJ:bq:=⟨[.one .str],[]⟩
noncomputable def xO:ct:=⟨139,aw Go.Proofs.Tryz.f171,[.tmp 8],
 [],
 [(2,[.keep [2,4,9,13,15,16],.own 9 (.int .i64) false,.own 15 .str false,.keepR [4,2009,2015]]),(4,[.keep [2,3,4,15,116,117,118],.own 15 .str false,.own 116 (.int .i64) false,.keepR [4,2015,2116]])],
 [],[],false⟩
noncomputable def EB:bq:=⟨[.one (.own (.int .i64) false)],[]⟩
noncomputable def A4:ct:=⟨32,aw Go.Proofs.Tryz.f172,[.tmp 4],
 [],
 [(0,[.keep [1,5,11,12,13],.own 5 (.int .i64) false,.keepR [2005]])],
 [],[],false⟩
noncomputable def FO:bq:=⟨[.one .bool],[]⟩
noncomputable def DX:ct:=⟨36,aw Go.Proofs.Tryz.f173,[.tmp 4],
 [],
 [],
 [],[],false⟩
noncomputable def D2:bq:=⟨[.one (.int .i64)],[]⟩
noncomputable def zL:ct:=⟨19,aw Go.Proofs.Tryz.f189,[.tmp 4],
 [],
 [(0,[.keep [0,1,7,8],.keepR []])],
 [],[],false⟩
noncomputable def GV:bq:=⟨[.one .str],[]⟩
noncomputable def DW:ct:=⟨7,aw Go.Proofs.Tryz.f190,[.tmp 2],
 [],
 [],
 [],[],false⟩
noncomputable def Hk:bq:=⟨[.one .str],[]⟩
noncomputable def DD:ct:=⟨7,aw Go.Proofs.Tryz.f191,[.tmp 2],
 [],
 [],
 [],[],false⟩
noncomputable def Gz:bq:=⟨[.one .str],[]⟩
noncomputable def H2:List (Nat×iC):=[
 (3,⟨false,1,8,[(.int .i64 0)],some .i64,false,none,0,[],0,[],false,false,false,false⟩),
 (4,⟨false,1,1,[(.bool false)],none,false,none,0,[],0,[],false,true,false,false⟩),
 (5,⟨false,1,1,[(.int .u8 0)],some .u8,false,none,0,[],0,[],false,false,false,false⟩),
 (9,⟨false,1,16,[(.str [])],none,true,none,0,[],0,[],false,false,false,false⟩),
 (23,⟨false,1,24,[.nils],none,false,some .str,9,[(.str [])],16,[],false,false,false,false⟩),
 (25,⟨false,1,24,[.nils],none,false,some .arr,27,[(.int .i64 0),(.int .i64 0),(.int .i64 0),(.str []),(.str []),(.str []),.nils],96,[],false,false,false,false⟩),
 (27,⟨true,7,96,[(.int .i64 0),(.int .i64 0),(.int .i64 0),(.str []),(.str []),(.str []),.nils],none,false,none,0,[],0,[(0,1,3),(1,1,3),(2,1,3),(3,1,9),(4,1,9),(5,1,9),(6,1,25)],false,false,false,false⟩),
 (30,⟨false,1,24,[.nils],none,false,some .node,58,[(.int .i64 0),(.int .i64 0),(.bool false)],24,[],false,false,false,false⟩),
 (32,⟨true,1,24,[.nils],none,false,none,0,[],0,[(0,1,30)],false,false,false,false⟩),
 (34,⟨false,1,8,[(.int .u64 0)],some .u64,false,none,0,[],0,[],false,false,false,false⟩),
 (40,⟨false,1,24,[.nils],none,false,some (.int .i64),3,[(.int .i64 0)],8,[],false,false,false,false⟩),
 (55,⟨false,1,24,[.nils],none,false,some (.int .u8),5,[(.int .u8 0)],1,[],false,false,false,false⟩),
 (58,⟨true,3,24,[(.int .i64 0),(.int .i64 0),(.bool false)],none,false,none,0,[],0,[(0,1,3),(1,1,3),(2,1,4)],true,false,false,false⟩),
 (76,⟨false,1,24,[.nils],none,false,some (.list .str),23,[.nils],24,[],false,false,false,false⟩),
 (131,⟨false,1,24,[.nils],none,false,some .bool,4,[(.bool false)],1,[],false,false,false,false⟩),
 (137,⟨true,1,24,[.nils],none,false,none,0,[],0,[(0,1,32)],false,false,false,false⟩),
 (148,⟨false,1,8,[(.int .u64 0)],some .u64,false,none,0,[],0,[],false,false,false,false⟩)]
noncomputable def GT:List (Nat×List PK):=[
 (3,[.one (.int .i64),.one (.int .i64),.one (.int .i64)]),
 (15,[]),
 (16,[.one (.int .i64)]),
 (17,[.agg [(.list .node)],.one (.int .i64),.one (.list .str)]),
 (18,[]),
 (19,[.agg [(.list .node)],.one (.int .i64),.agg [(.int .i64),(.int .i64),(.int .i64),.str,.str,.str,(.list .arr)],.agg [(.int .i64),(.int .i64),(.int .i64),.str,.str,.str,(.list .arr)]]),
 (20,[.one (.int .i64)]),
 (31,[.one (.int .i64),.one (.int .i64)]),
 (42,[.agg [(.list .node)],.one (.int .i64),.agg [(.int .i64),(.int .i64),(.int .i64),.str,.str,.str,(.list .arr)]]),
 (43,[]),
 (44,[.agg [(.list .node)],.one (.int .i64),.agg [(.int .i64),(.int .i64),(.int .i64),.str,.str,.str,(.list .arr)],.one (.int .i64),.one (.int .i64)]),
 (45,[.agg [(.int .i64),(.int .i64),(.int .i64),.str,.str,.str,(.list .arr)]]),
 (46,[.one (.int .i64)]),
 (47,[.agg [(.list .node)],.one (.int .i64)]),
 (48,[.agg [(.list .node)],.one (.int .i64),.one .str]),
 (49,[.agg [(.list .node)],.one (.int .i64),.one (.list .str)]),
 (50,[.agg [(.list .node)],.one (.int .i64),.agg [(.int .i64),(.int .i64),(.int .i64),.str,.str,.str,(.list .arr)]]),
 (51,[.one (.list .str),.one (.list .str)]),
 (65,[.one .str]),
 (73,[.one .str,.one (.int .i64),.one (.int .i64)]),
 (78,[.agg [(.list .node)]]),
 (82,[.agg [(.list .node)],.one (.int .i64),.agg [(.int .i64),(.int .i64),(.int .i64),.str,.str,.str,(.list .arr)]]),
 (83,[.agg [(.list .node)],.one (.int .i64),.agg [(.int .i64),(.int .i64),(.int .i64),.str,.str,.str,(.list .arr)]]),
 (84,[.agg [(.int .i64),(.int .i64),(.int .i64),.str,.str,.str,(.list .arr)]]),
 (85,[.agg [(.list .node)],.one (.int .i64),.agg [(.int .i64),(.int .i64),(.int .i64),.str,.str,.str,(.list .arr)]]),
 (86,[.one (.int .i64)]),
 (87,[.one .str]),
 (88,[.agg [(.list .node)],.one (.int .i64)]),
 (89,[.one (.int .i64)]),
 (90,[.one (.list .str)]),
 (91,[.one .str]),
 (92,[.one (.list .str)]),
 (93,[.agg [(.list .node)],.one (.int .i64)]),
 (94,[.one (.list .bool)]),
 (95,[.agg [(.list .node)],.one (.int .i64),.agg [(.int .i64),(.int .i64),(.int .i64),.str,.str,.str,(.list .arr)]]),
 (96,[.agg [(.list .node)],.one (.int .i64),.ro [(.int .i64),(.int .i64),(.int .i64),.str,.str,.str,(.list .arr)],.one (.int .i64)]),
 (98,[]),
 (100,[.agg [(.list .node)],.one (.int .i64)]),
 (101,[.ro [(.list .node)],.one (.int .i64)]),
 (108,[.one (.int .i64)]),
 (111,[.one (.int .i64)]),
 (112,[.one .str,.one (.int .i64),.one (.int .i64)]),
 (118,[.one (.int .i64)]),
 (119,[.one .bool]),
 (120,[.one .str]),
 (122,[.one .str]),
 (123,[.one (.int .i64)]),
 (125,[.one .str,.one (.int .i64)]),
 (126,[.one .bool]),
 (127,[.one .str]),
 (128,[.one (.int .i64),.one (.int .i64),.one (.int .i64)]),
 (129,[.agg [(.list .node)],.one (.int .i64)]),
 (130,[.agg [(.list .node)],.one (.int .i64),.agg [(.int .i64),(.int .i64),(.int .i64),.str,.str,.str,(.list .arr)],.one (.int .i64)]),
 (131,[.agg [(.int .i64),(.int .i64),(.int .i64),.str,.str,.str,(.list .arr)],.one (.int .i64)]),
 (132,[.agg [(.list .node)],.one (.int .i64),.agg [(.int .i64),(.int .i64),(.int .i64),.str,.str,.str,(.list .arr)],.one (.int .i64)]),
 (133,[.one .str,.one (.int .i64),.one (.int .i64)]),
 (134,[.one .str,.one (.int .i64),.one (.int .u8)]),
 (135,[.one (.list .str)]),
 (136,[.ro [(.int .i64),(.int .i64),.bool],.ro [(.int .i64),(.int .i64),(.int .i64),.str,.str,.str,(.list .arr)]]),
 (137,[.ro [(.list .node)],.one (.int .i64),.ro [(.int .i64),(.int .i64),(.int .i64),.str,.str,.str,(.list .arr)]]),
 (138,[.ro [(.list .node)],.one (.int .i64),.ro [(.int .i64),(.int .i64),(.int .i64),.str,.str,.str,(.list .arr)]]),
 (139,[.ro [(.list .node)],.one (.int .i64),.ro [(.int .i64),(.int .i64),(.int .i64),.str,.str,.str,(.list .arr)]]),
 (140,[.agg [(.list .node)],.one (.int .i64),.ro [(.int .i64),(.int .i64),(.int .i64),.str,.str,.str,(.list .arr)],.one (.int .i64)]),
 (141,[.agg [(.list .node)],.one (.int .i64)]),
 (144,[.agg [(.list .node)]]),
 (148,[.one (.int .i64)]),
 (155,[.one (.int .i64)]),
 (158,[.one .str,.one (.int .i64)]),
 (159,[.one (.int .i64)]),
 (160,[.agg [(.int .i64),(.int .i64),(.int .i64),.str,.str,.str,(.list .arr)]]),
 (161,[.one .str,.one (.int .i64),.one (.int .i64),.one (.int .i64),.one (.int .i64)]),
 (162,[.agg [(.int .i64),(.int .i64),(.int .i64),.str,.str,.str,(.list .arr)],.one (.int .i64)]),
 (163,[.one (.list .str)]),
 (164,[.one .str,.one (.int .i64),.one (.int .i64),.one (.int .i64),.one (.int .i64)]),
 (165,[.agg [(.int .i64),(.int .i64),(.int .i64),.str,.str,.str,(.list .arr)],.ro [(.int .i64)]]),
 (166,[.one (.list .arr),.fn]),
 (167,[.ro [(.list .node)],.one (.int .i64),.ro [(.int .i64),(.int .i64),(.int .i64),.str,.str,.str,(.list .arr)]]),
 (168,[.one .str,.one (.int .i64)]),
 (169,[.ro [(.int .i64),(.int .i64),(.int .i64),.str,.str,.str,(.list .arr)],.one (.int .i64)]),
 (170,[.ro [(.int .i64),(.int .i64),(.int .i64),.str,.str,.str,(.list .arr)],.one (.int .i64)]),
 (171,[.agg [(.list .node)],.one (.int .i64),.ro [(.int .i64),(.int .i64),(.int .i64),.str,.str,.str,(.list .arr)],.one (.int .i64)]),
 (172,[.ro [(.list .node)],.one (.int .i64)]),
 (173,[.ro [(.list .node)],.one (.int .i64)]),
 (189,[.one (.list .arr),.fn]),
 (190,[.one (.list .str)]),
 (191,[.one (.list .str)]),
 (200,[.one (.list .str),.one .str])]
noncomputable def Ib:List (Nat×bq):=[(3,H3),(15,HA),(16,HW),(17,G8),(18,HN),(19,HO),(20,HH),(31,HJ),(42,HF),(43,Hy),(44,HC),(45,Hz),(46,Hf),(47,HL),(48,FM),(49,BE),(50,FN),(51,F2),(65,Hi),(73,HB),(78,Hm),(82,HS),(83,Hu),(84,Hw),(85,Hr),(86,ES),(87,E2),(88,Ht),(89,HK),(90,Hl),(91,F7),(92,Gu),(93,G5),(94,Hj),(95,HT),(96,HU),(98,HM),(100,FG),(101,Et),(108,F8),(111,G6),(112,GI),(118,FU),(119,FQ),(120,FS),(122,GW),(123,FI),(125,Gl),(126,Gs),(127,GU),(128,GL),(129,D1),(130,He),(131,GY),(132,GB),(133,Ey),(134,DN),(135,FZ),(136,Ha),(137,Dx),(138,Eg),(139,Ea),(140,G0),(141,GP),(144,AC),(148,Gk),(155,Gx),(158,FH),(159,Gj),(160,GH),(161,FK),(162,FV),(163,Gg),(164,Ec),(165,GR),(166,GM),(167,FW),(168,FY),(169,Ge),(170,DF),(171,zJ),(172,EB),(173,FO),(189,D2),(190,GV),(191,Hk),(200,Gz)]
noncomputable def H5:List (Nat×ct):=[(3,HE),(15,G9),(16,G1),(17,EM),(18,F6),(19,FD),(20,Gn),(31,F4),(42,FP),(43,GZ),(44,GN),(45,G4),(46,EJ),(47,Hg),(48,Fh),(49,za),(50,EH),(51,E1),(65,Fv),(73,GO),(78,EW),(82,F5),(83,Gv),(84,Gi),(85,F3),(86,BU),(87,C6),(88,Gw),(89,F9),(90,ER),(91,E4),(92,Fq),(93,Fa),(94,EF),(95,Gy),(96,Gf),(98,GE),(100,Ew),(101,Ax),(108,D9),(111,Ek),(112,DV),(118,Ep),(119,En),(120,Ed),(122,Ez),(123,Es),(125,Em),(126,DL),(127,D7),(128,DZ),(129,By),(130,D5),(131,Eu),(132,DT),(133,BO),(134,zB),(135,Eo),(136,Eh),(137,Bn),(138,AE),(139,AU),(140,Eb),(141,DG),(144,ym),(148,DY),(155,DI),(158,DC),(160,Dv),(161,Dz),(162,Dw),(163,Ef),(164,BL),(165,D3),(166,EA),(167,DU),(168,Ej),(169,DJ),(170,zw),(171,xO),(172,A4),(173,DX),(189,zL),(190,DW),(191,DD)]
noncomputable def AB (f:FuncId):List PK:=match look f GT with|some l=>l|none=>[]
noncomputable def qV (f:FuncId):bq:=match look f Ib with|some s=>s|none=>⟨[],[]⟩
noncomputable def zG (f:FuncId)(args:List l7):Option (qV f).den:=
 if h:f=159 then h.symm ▸ (show Option (qV 159).den from qL args) else
 if h:f=200 then h.symm ▸ (show Option (qV 200).den from rW args) else
 none
noncomputable def E (bar:aU):ew:=⟨fun f=>look f H5,fun t=>look t H2,AB,qV,zG,bar⟩
end Go.Proofs.YtjkokaockhecnaaGreatDoorA
