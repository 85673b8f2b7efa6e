/- The functions, types, parameters and results of the program, as the machine is told of them: definitions alone. -/
import Derived.Test.YtjkokaockhecnaaGreatDoorProg
import Derived.Test.YtjkokaockhecnaaGreatDoorExt
namespace Go.Proofs.YtjkokaockhecnaaGreatDoorA
open Go
set_option linter.unusedVariables false
noncomputable def am (f:Func):Code:=match f.body with|some c=>c|none=>.skip
noncomputable def GO:bg:=⟨[.one .bool],[]⟩
noncomputable def Gk:ce:=⟨105,am Go.Proofs.Tryz.f5,[.tmp 10],
 [],
 [(0,[.keep [1,5,7,13,14,15,16,17,18],.own 15 .byt false,.cell 13 0 (.int .i64) false,.cell 13 1 (.int .i64) false,.cell 13 2 .str false,.keepR [5,7,13,2015]])],
 [],[],false⟩
noncomputable def Gn:bg:=⟨[.one (.int .i64)],[]⟩
noncomputable def FY:ce:=⟨4,am Go.Proofs.Tryz.f20,[.tmp 2],
 [],
 [],
 [],[],false⟩
noncomputable def Eh:bg:=⟨[.one .str,.one (.int .i64)],[]⟩
noncomputable def Cc:ce:=⟨75,am Go.Proofs.Tryz.f22,[.tmp 6,.tmp 7],
 [],
 [(0,[.keep [5,11,12,13,45,46,47],.bself 13,.own 45 (.int .i64) false,.cell 13 1 (.int .u8) false,.keepR [5,13,2045]]),(2,[.keep [13,60,61,62],.bself 13,.cell 13 1 (.int .u8) false,.keepR [13]])],
 [],[],false⟩
noncomputable def E1:bg:=⟨[.agg [(.own (.int .i64) false),(.own (.int .i64) false),(.own .str false)],.one (.int .i64)],[]⟩
noncomputable def EA:ce:=⟨134,am Go.Proofs.Tryz.f24,[.cell 6 42,.tmp 7],
 [],
 [(0,[.keep [1,2,3,6,11,15,16,17,82,83],.cell 15 0 (.int .i64) false,.cell 15 1 (.int .i64) false,.cell 15 2 .str false,.cell 6 0 (.int .i64) false,.cell 6 1 (.int .i64) false,.cell 6 2 .str false,.keepR [3,6,15,48]])],
 [],[],false⟩
noncomputable def Gz:bg:=⟨[.one .bool],[]⟩
noncomputable def EP:ce:=⟨24,am Go.Proofs.Tryz.f26,[.tmp 4],
 [],
 [],
 [],[],false⟩
noncomputable def Gm:bg:=⟨[.one .bool],[]⟩
noncomputable def FU:ce:=⟨87,am Go.Proofs.Tryz.f28,[.tmp 0],
 [],
 [],
 [],[],false⟩
noncomputable def GH:bg:=⟨[.agg [(.own .node false)]],[]⟩
noncomputable def F4:ce:=⟨4,am Go.Proofs.Tryz.f29,[.cell 0 32],
 [],
 [],
 [],[],false⟩
noncomputable def FV:bg:=⟨[.one .bool],[]⟩
noncomputable def D9:ce:=⟨26,am Go.Proofs.Tryz.f38,[.tmp 4],
 [],
 [(0,[.keep [0,1,5],.keepR []])],
 [],[],false⟩
noncomputable def E0:bg:=⟨[.one .bool],[]⟩
noncomputable def DK:ce:=⟨78,am Go.Proofs.Tryz.f52,[.tmp 6],
 [],
 [(0,[.keep [1,3,5,8,53,54,55],.keepR [3,5]])],
 [],[],false⟩
noncomputable def E9:bg:=⟨[.one (.int .i64),.one (.int .i64),.one (.int .i64)],[]⟩
noncomputable def Eb:ce:=⟨44,am Go.Proofs.Tryz.f53,[.tmp 4,.tmp 5,.tmp 6],
 [],
 [(0,[.keep [2,7,8,16,17,18],.own 16 (.int .i64) false,.keepR [2,2016]])],
 [],[],false⟩
noncomputable def GF:bg:=⟨[.one .str],[]⟩
noncomputable def FI:ce:=⟨16,am Go.Proofs.Tryz.f54,[.tmp 4],
 [],
 [],
 [],[],false⟩
noncomputable def Gw:bg:=⟨[.one .str],[]⟩
noncomputable def FQ:ce:=⟨25,am Go.Proofs.Tryz.f56,[.tmp 4],
 [],
 [(0,[.keep [0,5,10,11],.own 5 (.int .u8) false,.keepR [2005]])],
 [],[],false⟩
noncomputable def GE:bg:=⟨[.one .str],[]⟩
noncomputable def Ft:ce:=⟨45,am Go.Proofs.Tryz.f57,[.tmp 2],
 [],
 [],
 [],[],false⟩
noncomputable def Ef:bg:=⟨[.one (.int .i64)],[]⟩
noncomputable def BS:ce:=⟨31,am Go.Proofs.Tryz.f58,[.tmp 2],
 [],
 [(0,[.keep [0,3,7,8],.keepR []]),(2,[.keep [0,3,7,8,17],.keepR []])],
 [],[],false⟩
noncomputable def GG:bg:=⟨[.one .bool],[]⟩
noncomputable def E3:ce:=⟨18,am Go.Proofs.Tryz.f64,[.tmp 4],
 [],
 [],
 [],[],false⟩
noncomputable def EG:bg:=⟨[.one (.int .i64)],[]⟩
noncomputable def Eg:ce:=⟨22,am Go.Proofs.Tryz.f65,[.tmp 2],
 [],
 [(0,[.keep [0,3,6,7],.keepR []])],
 [],[],false⟩
noncomputable def GB:bg:=⟨[.one (.int .i64)],[(0,[.str,.bool])]⟩
noncomputable def F8:ce:=⟨27,am Go.Proofs.Tryz.f66,[.tmp 2],
 [],
 [],
 [],[],false⟩
noncomputable def D7:bg:=⟨[.one (.own (.int .i64) false),.one (.int .i64)],[]⟩
noncomputable def Bv:ce:=⟨136,am Go.Proofs.Tryz.f67,[.tmp 6,.tmp 7],
 [],
 [(0,[.keep [0,1,2,8],.cell 32 2 (.int .i64) false,.keepR [32]])],
 [(12,[.keep [0,1,2,8,9],.cell 32 2 (.int .i64) false,.keepR [32]])],[],false⟩
noncomputable def Gu:bg:=⟨[.one .str],[(0,[.str,.bool])]⟩
noncomputable def EI:ce:=⟨42,am Go.Proofs.Tryz.f68,[.tmp 4],
 [],
 [],
 [],[],false⟩
noncomputable def Gl:bg:=⟨[.one (.int .i64)],[]⟩
noncomputable def Fh:ce:=⟨8,am Go.Proofs.Tryz.f69,[.tmp 2],
 [],
 [],
 [],[],false⟩
noncomputable def E8:bg:=⟨[.one (.int .i64)],[]⟩
noncomputable def Em:ce:=⟨21,am Go.Proofs.Tryz.f70,[.tmp 4],
 [],
 [(0,[.keep [1,5,8,9,10],.keepR []])],
 [],[],false⟩
noncomputable def Gv:bg:=⟨[.one .str],[(0,[.str,.bool])]⟩
noncomputable def Fe:ce:=⟨22,am Go.Proofs.Tryz.f71,[.tmp 4],
 [],
 [],
 [],[],false⟩
noncomputable def FP:bg:=⟨[.one .bool],[]⟩
noncomputable def Ej:ce:=⟨26,am Go.Proofs.Tryz.f76,[.tmp 4],
 [],
 [(0,[.keep [0,1,5],.keepR []])],
 [],[],false⟩
noncomputable def Gx:bg:=⟨[.one .bool],[]⟩
noncomputable def EQ:ce:=⟨99,am Go.Proofs.Tryz.f78,[.tmp 2],
 [],
 [(0,[.keep [1,3,4],.own 3 (.int .i64) false,.keepR [1,2003]])],
 [],[],false⟩
noncomputable def Gi:bg:=⟨[.one .bool],[]⟩
noncomputable def EW:ce:=⟨9,am Go.Proofs.Tryz.f89,[.tmp 2],
 [],
 [],
 [],[],false⟩
noncomputable def FH:bg:=⟨[.one .bool],[]⟩
noncomputable def Et:ce:=⟨21,am Go.Proofs.Tryz.f97,[.tmp 4],
 [],
 [(0,[.keep [1,7,8,9],.keepR []])],
 [],[],false⟩
noncomputable def Gs:bg:=⟨[.one .str],[]⟩
noncomputable def ET:ce:=⟨1,am Go.Proofs.Tryz.f98,[.tmp 0],
 [],
 [],
 [],[],false⟩
noncomputable def EX:bg:=⟨[.one .bool],[]⟩
noncomputable def Ey:ce:=⟨91,am Go.Proofs.Tryz.f99,[.tmp 6],
 [],
 [(1,[.keep [7,8,11,13,70,71,72],.view 8 .str,.own 11 (.int .i64) false,.view 70 .str,.keepR [3,2011]])],
 [],[],false⟩
noncomputable def Fa:bg:=⟨[.one .bool],[]⟩
noncomputable def Di:ce:=⟨18,am Go.Proofs.Tryz.f100,[.tmp 4],
 [],
 [],
 [],[],false⟩
noncomputable def CW:bg:=⟨[.one (.own (.int .i64) false)],[]⟩
noncomputable def yN:ce:=⟨21,am Go.Proofs.Tryz.f101,[.tmp 4],
 [],
 [(0,[.keep [0,1,5],.own 5 (.int .i64) false,.keepR [2005]])],
 [],[],false⟩
noncomputable def C7:bg:=⟨[.one .str,.one (.int .i64)],[]⟩
noncomputable def Ak:ce:=⟨62,am Go.Proofs.Tryz.f102,[.tmp 4,.tmp 5],
 [],
 [(0,[.keep [0,1,6],.bself 6,.cell 6 1 (.int .u8) false,.keepR [6]])],
 [],[],false⟩
noncomputable def E7:bg:=⟨[.one (.int .i64),.one (.own .str false),.one (.int .i64)],[]⟩
noncomputable def CP:ce:=⟨32,am Go.Proofs.Tryz.f104,[.tmp 2,.tmp 3,.tmp 4],
 [],
 [],
 [],[],false⟩
noncomputable def F6:bg:=⟨[.one (.int .i64),.one .err],[]⟩
noncomputable def FD:bg:=⟨[.one .bool],[]⟩
noncomputable def DC:ce:=⟨9,am Go.Proofs.Tryz.f111,[.tmp 2],
 [],
 [],
 [],[],false⟩
noncomputable def Fv:bg:=⟨[.one (.int .i64),.one (.int .i64)],[]⟩
noncomputable def Df:ce:=⟨48,am Go.Proofs.Tryz.f112,[.tmp 6,.tmp 7],
 [],
 [],
 [],[],false⟩
noncomputable def CE:bg:=⟨[.one (.int .i64),.one (.int .i64),.one (.int .i64)],[]⟩
noncomputable def yG:ce:=⟨70,am Go.Proofs.Tryz.f113,[.tmp 4,.tmp 5,.tmp 6],
 [],
 [(0,[.keep [0,1,7,8],.keepR []])],
 [],[],false⟩
noncomputable def F3:bg:=⟨[],[(0,[.str,(.int .i64),(.own (.int .i64) false),.bool])]⟩
noncomputable def C3:ce:=⟨44,am Go.Proofs.Tryz.f114,[],
 [(1000000,[.cell 1000 2 (.int .i64) false])],
 [],
 [],[],false⟩
noncomputable def Aq:bg:=⟨[],[(0,[.str,(.int .i64),(.own (.int .i64) false),.bool])]⟩
noncomputable def wi:ce:=⟨74,am Go.Proofs.Tryz.f115,[],
 [],
 [(0,[.keep [0,6,30,31],.cell 1000 2 (.int .i64) false,.keepR [1000]]),(2,[.keep [0,6,7,8,30,31,37,38],.cell 1000 2 (.int .i64) false,.keepR [1000]])],
 [],[],false⟩
noncomputable def E2:bg:=⟨[.one (.int .i64)],[]⟩
noncomputable def CU:ce:=⟨25,am Go.Proofs.Tryz.f117,[.tmp 2],
 [],
 [],
 [(4,[.keep [0,2],.keepR []]),(7,[.keep [0,2],.keepR []])],[],false⟩
noncomputable def FG:bg:=⟨[.one .str],[]⟩
noncomputable def Dt:ce:=⟨7,am Go.Proofs.Tryz.f118,[.tmp 2],
 [],
 [],
 [],[],false⟩
noncomputable def FM:bg:=⟨[.one .str],[]⟩
noncomputable def CX:ce:=⟨4,am Go.Proofs.Tryz.f119,[.tmp 2],
 [],
 [],
 [],[],false⟩
noncomputable def FN:bg:=⟨[.one .str],[]⟩
noncomputable def Db:ce:=⟨10,am Go.Proofs.Tryz.f120,[.tmp 2],
 [],
 [],
 [],[],false⟩
noncomputable def FW:bg:=⟨[.one .str],[(0,[.str,.bool])]⟩
noncomputable def Dk:ce:=⟨7,am Go.Proofs.Tryz.f121,[.tmp 2],
 [],
 [],
 [],[],false⟩
noncomputable def Fo:bg:=⟨[.one .bool],[]⟩
noncomputable def Dw:ce:=⟨15,am Go.Proofs.Tryz.f128,[.tmp 6],
 [],
 [],
 [],[],false⟩
noncomputable def Fg:bg:=⟨[.one (.own (.int .i64) false)],[]⟩
noncomputable def DF:ce:=⟨27,am Go.Proofs.Tryz.f129,[.tmp 4],
 [],
 [(0,[.keep [1,2,5,6],.own 5 (.int .i64) false,.keepR [2,2005]])],
 [],[],false⟩
noncomputable def Fj:bg:=⟨[.one (.own (.int .i64) false),.one (.int .i64)],[]⟩
noncomputable def CO:ce:=⟨12,am Go.Proofs.Tryz.f141,[.tmp 4,.tmp 5],
 [],
 [],
 [],[],false⟩
noncomputable def EJ:bg:=⟨[.one .bool],[]⟩
noncomputable def Dh:ce:=⟨10,am Go.Proofs.Tryz.f142,[.tmp 5],
 [],
 [],
 [],[],false⟩
noncomputable def F7:bg:=⟨[.one .bool],[]⟩
noncomputable def Dm:ce:=⟨33,am Go.Proofs.Tryz.f143,[.tmp 6],
 [],
 [(0,[.keep [0,1,2,12,13],.keepR []])],
 [],[],false⟩
noncomputable def zN:bg:=⟨[.one .bool],[]⟩
noncomputable def wl:ce:=⟨74,am Go.Proofs.Tryz.f144,[.tmp 2],
 [],
 [(0,[.keep [1,19,20,21],.keepR [1]]),(2,[.keep [1,41,42,43],.keepR [1]])],
 [],[],false⟩
noncomputable def Fb:bg:=⟨[.one .bool],[]⟩
noncomputable def C5:ce:=⟨24,am Go.Proofs.Tryz.f145,[.tmp 4],
 [],
 [],
 [],[],false⟩
noncomputable def Dv:bg:=⟨[.one (.int .i64)],[]⟩
noncomputable def y6:ce:=⟨21,am Go.Proofs.Tryz.f146,[.tmp 2],
 [],
 [(0,[.keep [0,5,6,7],.keepR []])],
 [],[],false⟩
noncomputable def CY:bg:=⟨[.one .str,.one (.int .i64)],[]⟩
noncomputable def zw:ce:=⟨24,am Go.Proofs.Tryz.f147,[.tmp 2,.tmp 3],
 [],
 [(0,[.keep [0,4],.own 4 (.int .u8) false,.keepR [2004]])],
 [],[],false⟩
noncomputable def Ff:bg:=⟨[.one (.int .i64)],[]⟩
noncomputable def DD:ce:=⟨6,am Go.Proofs.Tryz.f148,[.tmp 2],
 [],
 [],
 [],[],false⟩
noncomputable def C9:bg:=⟨[.one (.int .i64)],[]⟩
noncomputable def yu:ce:=⟨18,am Go.Proofs.Tryz.f149,[.tmp 2],
 [],
 [(0,[.keep [0,3],.keepR []])],
 [],[],false⟩
noncomputable def yD:bg:=⟨[.one .str],[]⟩
noncomputable def wU:ce:=⟨45,am Go.Proofs.Tryz.f150,[.tmp 4],
 [],
 [(0,[.keep [1,5,18,19,20],.own 5 .bool false,.keepR [2005]]),(2,[.keep [1,5,6,7,18,19,20,25,26],.own 5 .bool false,.keepR [2005]])],
 [],[],false⟩
noncomputable def EZ:bg:=⟨[.one (.int .i64),.one (.own .str false)],[(0,[.str,.bool])]⟩
noncomputable def Dy:ce:=⟨65,am Go.Proofs.Tryz.f152,[.tmp 4,.tmp 5],
 [],
 [],
 [],[],false⟩
noncomputable def EV:bg:=⟨[.one .bool],[]⟩
noncomputable def Dq:ce:=⟨9,am Go.Proofs.Tryz.f155,[.tmp 2],
 [],
 [],
 [],[],false⟩
noncomputable def ER:bg:=⟨[.one .str],[(0,[.str,(.int .i64),(.own (.int .i64) false),.bool])]⟩
noncomputable def Dz:ce:=⟨38,am Go.Proofs.Tryz.f156,[.tmp 4],
 [],
 [],
 [],[],false⟩
noncomputable def wO:bg:=⟨[.one (.own (.int .i64) false)],[]⟩
noncomputable def tW:ce:=⟨48,am Go.Proofs.Tryz.f157,[.tmp 4],
 [],
 [(0,[.keep [7,8],.own 7 (.int .i64) false,.keepR [2007]])],
 [(3,[.keep [0,1],.keepR []]),(6,[.keep [0,6],.keepR []])],[],false⟩
noncomputable def EH:bg:=⟨[.one .bool],[]⟩
noncomputable def CJ:ce:=⟨14,am Go.Proofs.Tryz.f158,[.tmp 4],
 [],
 [],
 [],[],false⟩
noncomputable def ES:bg:=⟨[.one .str],[]⟩
noncomputable def Dc:bg:=⟨[.one (.own (.int .i64) false)],[]⟩
noncomputable def AC:ce:=⟨32,am Go.Proofs.Tryz.f172,[.tmp 4],
 [],
 [(0,[.keep [1,5,11,12,13],.own 5 (.int .i64) false,.keepR [2005]])],
 [],[],false⟩
noncomputable def EK:bg:=⟨[.one .bool],[]⟩
noncomputable def CN:ce:=⟨36,am Go.Proofs.Tryz.f173,[.tmp 4],
 [],
 [],
 [],[],false⟩
noncomputable def FK:bg:=⟨[.one .bool],[]⟩
noncomputable def CS:ce:=⟨12,am Go.Proofs.Tryz.f174,[.tmp 3],
 [],
 [],
 [],[],false⟩
noncomputable def Ge:bg:=⟨[.one .bool],[]⟩
noncomputable def Du:ce:=⟨9,am Go.Proofs.Tryz.f175,[.tmp 4],
 [],
 [],
 [],[],false⟩
noncomputable def CZ:bg:=⟨[.one .str],[]⟩
noncomputable def Az:ce:=⟨31,am Go.Proofs.Tryz.f176,[.tmp 2],
 [],
 [(0,[.keep [3,10,11,12],.own 3 (.int .u8) false,.keepR [2003]])],
 [],[],false⟩
noncomputable def EN:bg:=⟨[.one (.int .i64),.one (.own .str false)],[(0,[.str,.bool])]⟩
noncomputable def Do:ce:=⟨7,am Go.Proofs.Tryz.f177,[.tmp 2,.tmp 3],
 [],
 [],
 [],[],false⟩
noncomputable def EO:bg:=⟨[.one (.int .u8)],[(0,[.str,.bool])]⟩
noncomputable def Da:ce:=⟨26,am Go.Proofs.Tryz.f178,[.tmp 2],
 [],
 [],
 [],[],false⟩
noncomputable def E4:bg:=⟨[.one (.int .i64),.one .str],[(0,[.str,.bool])]⟩
noncomputable def C0:ce:=⟨47,am Go.Proofs.Tryz.f179,[.tmp 4,.tmp 5],
 [],
 [],
 [],[],false⟩
noncomputable def FB:bg:=⟨[.one .str],[(0,[.str,.bool])]⟩
noncomputable def Dl:ce:=⟨42,am Go.Proofs.Tryz.f180,[.tmp 4],
 [],
 [],
 [],[],false⟩
noncomputable def Dp:bg:=⟨[.one (.own .str false)],[(0,[.str,.bool])]⟩
noncomputable def AP:ce:=⟨53,am Go.Proofs.Tryz.f181,[.tmp 6],
 [],
 [(0,[.keep [0,1,2,7],.own 7 .str false,.keepR [1000,2007]])],
 [],[],false⟩
noncomputable def F5:bg:=⟨[.one (.int .u64),.one (.int .u64)],[]⟩
noncomputable def Dj:ce:=⟨30,am Go.Proofs.Tryz.f187,[.tmp 4,.tmp 5],
 [],
 [],
 [],[],false⟩
noncomputable def CM:bg:=⟨[.one (.int .i64)],[]⟩
noncomputable def yU:ce:=⟨19,am Go.Proofs.Tryz.f192,[.tmp 4],
 [],
 [(0,[.keep [0,1,7,8],.keepR []])],
 [],[],false⟩
noncomputable def F2:bg:=⟨[.one .str,.one .str,.one .bool],[]⟩
noncomputable def EL:bg:=⟨[.one (.int .u64),.one (.int .u64)],[]⟩
noncomputable def Ds:ce:=⟨51,am Go.Proofs.Tryz.f198,[.tmp 4,.tmp 5],
 [],
 [],
 [],[],false⟩
noncomputable def GI:List (Nat×gA):=[
 (3,⟨false,1,8,[(.int .i64 0)],some .i64,false,none,0,[],0,[],false,false,false,false⟩),
 (4,⟨false,1,1,[(.bool false)],none,false,none,0,[],0,[],false,true,false,false⟩),
 (5,⟨false,1,1,[(.int .u8 0)],some .u8,false,none,0,[],0,[],false,false,false,false⟩),
 (9,⟨false,1,16,[(.str [])],none,true,none,0,[],0,[],false,false,false,false⟩),
 (23,⟨false,1,24,[.nils],none,false,some .str,9,[(.str [])],16,[],false,false,false,false⟩),
 (30,⟨false,1,24,[.nils],none,false,some .node,58,[(.int .i64 0),(.int .i64 0),(.bool false)],24,[],false,false,false,false⟩),
 (32,⟨true,1,24,[.nils],none,false,none,0,[],0,[(0,1,30)],false,false,false,false⟩),
 (34,⟨false,1,8,[(.int .u64 0)],some .u64,false,none,0,[],0,[],false,false,false,false⟩),
 (40,⟨false,1,24,[.nils],none,false,some (.int .i64),3,[(.int .i64 0)],8,[],false,false,false,false⟩),
 (42,⟨true,3,72,[.nils,.nils,.nils],none,false,none,0,[],0,[(0,1,40),(1,1,40),(2,1,23)],false,false,false,false⟩),
 (55,⟨false,1,24,[.nils],none,false,some (.int .u8),5,[(.int .u8 0)],1,[],false,false,false,false⟩),
 (58,⟨true,3,24,[(.int .i64 0),(.int .i64 0),(.bool false)],none,false,none,0,[],0,[(0,1,3),(1,1,3),(2,1,4)],true,false,false,false⟩),
 (91,⟨true,2,32,[.nilp,.nils],none,false,none,0,[],0,[(0,1,89),(1,1,55)],false,false,true,false⟩),
 (93,⟨false,1,16,[.und],none,false,none,0,[],0,[],false,false,false,true⟩),
 (104,⟨true,2,24,[(.str []),(.bool false)],none,false,none,0,[],0,[(0,1,9),(1,1,4)],true,false,false,false⟩),
 (119,⟨false,1,4,[(.int .u32 0)],some .u32,false,none,0,[],0,[],false,false,false,false⟩),
 (131,⟨false,1,24,[.nils],none,false,some .bool,4,[(.bool false)],1,[],false,false,false,false⟩),
 (148,⟨false,1,8,[(.int .u64 0)],some .u64,false,none,0,[],0,[],false,false,false,false⟩),
 (153,⟨true,4,56,[(.str []),(.int .i64 0),.nils,(.bool false)],none,false,none,0,[],0,[(0,1,9),(1,1,3),(2,1,40),(3,1,4)],false,false,false,false⟩),
 (179,⟨true,2,24,[(.str []),(.bool false)],none,false,none,0,[],0,[(0,1,9),(1,1,4)],true,false,false,false⟩)]
noncomputable def FA:List (Nat×List PK):=[
 (5,[.agg [(.list .node)],.one (.int .i64),.agg [(.list (.int .i64)),(.list (.int .i64)),(.list .str)],.one (.int .i64),.one (.int .i64)]),
 (20,[.one (.int .i64)]),
 (22,[.agg [(.list .node)],.one (.int .i64),.agg [(.list (.int .i64)),(.list (.int .i64)),(.list .str)]]),
 (24,[.agg [(.list .node)],.one (.int .i64),.one .str]),
 (26,[.agg [(.list (.int .i64)),(.list (.int .i64)),(.list .str)],.agg [(.list (.int .i64)),(.list (.int .i64)),(.list .str)]]),
 (28,[]),
 (29,[]),
 (38,[.one (.list .str),.one (.list .str)]),
 (52,[.agg [(.list .node)],.one (.int .i64),.agg [(.list (.int .i64)),(.list (.int .i64)),(.list .str)]]),
 (53,[.agg [(.list .node)],.one (.int .i64)]),
 (54,[.one (.list (.int .i64)),.one (.int .i64)]),
 (55,[.bw 91,.one .str]),
 (56,[.one (.int .i64),.one (.int .i64)]),
 (57,[.one .str]),
 (58,[.one .str]),
 (59,[.br 91 5]),
 (64,[.agg [(.list .node)],.one (.int .i64)]),
 (65,[.one .str]),
 (66,[.rw [.str,.bool]]),
 (67,[.one .str,.one (.int .i64),.one (.int .i64)]),
 (68,[.rw [.str,.bool],.one (.int .i64)]),
 (69,[.one (.int .u64)]),
 (70,[.one (.list (.int .i64)),.one (.int .i64)]),
 (71,[.rw [.str,.bool],.one (.int .i64)]),
 (76,[.one (.list (.int .i64)),.one (.list (.int .i64))]),
 (78,[.agg [(.list .node)]]),
 (89,[.one (.int .i64)]),
 (97,[.one (.list (.int .i64)),.one (.int .i64)]),
 (98,[]),
 (99,[.agg [(.list .node)],.one (.int .i64),.one .str]),
 (100,[.agg [(.list .node)],.one (.int .i64)]),
 (101,[.ro [(.list .node)],.one (.int .i64)]),
 (102,[.one (.list (.int .i64)),.one (.int .i64)]),
 (104,[.one .str]),
 (105,[.one .str]),
 (111,[.one (.int .i64)]),
 (112,[.one .str,.one (.int .i64),.one (.int .i64)]),
 (113,[.one .str,.one (.int .i64)]),
 (114,[.rw [.str,(.int .i64),(.own (.int .i64) false),.bool],.one (.int .i64),.one (.int .i64)]),
 (115,[.rw [.str,(.int .i64),(.own (.int .i64) false),.bool],.one (.int .i64),.one (.int .i64)]),
 (117,[.one (.int .u64)]),
 (118,[.one (.int .i64)]),
 (119,[.one .bool]),
 (120,[.one .str]),
 (121,[.rw [.str,.bool]]),
 (128,[.one (.int .i64),.one (.int .i64),.one (.int .i64)]),
 (129,[.agg [(.list .node)],.one (.int .i64)]),
 (141,[.agg [(.list .node)],.one (.int .i64)]),
 (142,[.one (.int .i64),.one .str,.ro [(.list .node)]]),
 (143,[.one (.list (.int .i64)),.one (.list .str),.fn]),
 (144,[.agg [(.list .node)]]),
 (145,[.one (.list (.int .i64)),.one (.int .i64)]),
 (146,[.one (.list (.int .i64))]),
 (147,[.one (.int .i64)]),
 (148,[.one (.int .i64)]),
 (149,[.one (.list (.int .i64))]),
 (150,[.one (.list (.int .i64)),.one (.int .i64)]),
 (152,[.rw [.str,.bool],.one (.int .i64)]),
 (155,[.one (.int .i64)]),
 (156,[.rw [.str,(.int .i64),(.own (.int .i64) false),.bool],.one (.int .i64)]),
 (157,[.one (.list (.int .i64)),.one (.int .i64)]),
 (158,[.one .str,.one (.int .i64)]),
 (159,[.one (.int .i64)]),
 (172,[.ro [(.list .node)],.one (.int .i64)]),
 (173,[.ro [(.list .node)],.one (.int .i64)]),
 (174,[.one (.int .i64),.ro [(.int .i64)]]),
 (175,[.one (.list (.int .i64)),.fn]),
 (176,[.one (.list .bool)]),
 (177,[.rw [.str,.bool]]),
 (178,[.rw [.str,.bool]]),
 (179,[.rw [.str,.bool],.one .str]),
 (180,[.rw [.str,.bool],.one (.int .i64)]),
 (181,[.rw [.str,.bool],.one (.int .u8),.one (.int .i64)]),
 (187,[.one (.int .u64),.one (.int .u64)]),
 (192,[.one (.list (.int .i64)),.fn]),
 (193,[.one .str,.one .str]),
 (198,[.one (.int .u64),.one (.int .u64)])]
noncomputable def GP:List (Nat×bg):=[(5,GO),(20,Gn),(22,Eh),(24,E1),(26,Gz),(28,Gm),(29,GH),(38,FV),(52,E0),(53,E9),(54,GF),(56,Gw),(57,GE),(58,Ef),(64,GG),(65,EG),(66,GB),(67,D7),(68,Gu),(69,Gl),(70,E8),(71,Gv),(76,FP),(78,Gx),(89,Gi),(97,FH),(98,Gs),(99,EX),(100,Fa),(101,CW),(102,C7),(104,E7),(105,F6),(111,FD),(112,Fv),(113,CE),(114,F3),(115,Aq),(117,E2),(118,FG),(119,FM),(120,FN),(121,FW),(128,Fo),(129,Fg),(141,Fj),(142,EJ),(143,F7),(144,zN),(145,Fb),(146,Dv),(147,CY),(148,Ff),(149,C9),(150,yD),(152,EZ),(155,EV),(156,ER),(157,wO),(158,EH),(159,ES),(172,Dc),(173,EK),(174,FK),(175,Ge),(176,CZ),(177,EN),(178,EO),(179,E4),(180,FB),(181,Dp),(187,F5),(192,CM),(193,F2),(198,EL)]
noncomputable def GK:List (Nat×ce):=[(5,Gk),(20,FY),(22,Cc),(24,EA),(26,EP),(28,FU),(29,F4),(38,D9),(52,DK),(53,Eb),(54,FI),(56,FQ),(57,Ft),(58,BS),(64,E3),(65,Eg),(66,F8),(67,Bv),(68,EI),(69,Fh),(70,Em),(71,Fe),(76,Ej),(78,EQ),(89,EW),(97,Et),(98,ET),(99,Ey),(100,Di),(101,yN),(102,Ak),(104,CP),(111,DC),(112,Df),(113,yG),(114,C3),(115,wi),(117,CU),(118,Dt),(119,CX),(120,Db),(121,Dk),(128,Dw),(129,DF),(141,CO),(142,Dh),(143,Dm),(144,wl),(145,C5),(146,y6),(147,zw),(148,DD),(149,yu),(150,wU),(152,Dy),(155,Dq),(156,Dz),(157,tW),(158,CJ),(172,AC),(173,CN),(174,CS),(175,Du),(176,Az),(177,Do),(178,Da),(179,C0),(180,Dl),(181,AP),(187,Dj),(192,yU),(198,Ds)]
noncomputable def zF (f:FuncId):List PK:=match look f FA with|some l=>l|none=>[]
noncomputable def nv (f:FuncId):bg:=match look f GP with|some s=>s|none=>⟨[],[]⟩
noncomputable def zP (f:FuncId)(args:List kh):Option (nv f).den:=
 if h:f=105 then h.symm ▸ (show Option (nv 105).den from qc args) else
 if h:f=159 then h.symm ▸ (show Option (nv 159).den from pY args) else
 if h:f=193 then h.symm ▸ (show Option (nv 193).den from sf args) else
 none
noncomputable def E (bar:aF):dE:=⟨fun f=>look f GK,fun t=>look t GI,zF,nv,zP,bar⟩
end Go.Proofs.YtjkokaockhecnaaGreatDoorA
