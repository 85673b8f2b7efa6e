/- The functions, types, parameters and results of the program, as the machine is told of them: definitions alone. -/
import Derived.Test.YtjkokaockhecnaaGreatDoorProg
import Derived.Test.YtjkokaockhecnaaGreatDoorExt
namespace Go.Proofs.YtjkokaockhecnaaGreatDoorA
open Go
set_option linter.unusedVariables false
noncomputable def aj (f:Func):Code:=match f.body with|some c=>c|none=>.skip
noncomputable def FW:bC:=⟨[.one .bool],[]⟩
noncomputable def EW:cp:=⟨100,aj Go.Proofs.Tryz.f14,[.tmp 10],
 [],
 [],
 [],[],false⟩
noncomputable def F2:bC:=⟨[.one (.int .i64)],[]⟩
noncomputable def E7:cp:=⟨4,aj Go.Proofs.Tryz.f20,[.tmp 2],
 [],
 [],
 [],[],false⟩
noncomputable def FV:bC:=⟨[.agg [(.own (.int .i64) false),(.own (.int .i64) false),(.own .str false)]],[]⟩
noncomputable def Eo:cp:=⟨16,aj Go.Proofs.Tryz.f21,[.cell 2 42],
 [],
 [],
 [],[],false⟩
noncomputable def Dw:bC:=⟨[.one .str,.one (.int .i64)],[]⟩
noncomputable def AW:cp:=⟨75,aj Go.Proofs.Tryz.f22,[.tmp 6,.tmp 7],
 [],
 [(0,[.keep [5,11,12,13,45,46,47],.bself 13,.own 45 (.int .i64) false,.cell 13 1 (.int .u8) false,.keepR [5,13,2045]]),(2,[.keep [13,60,61,62],.bself 13,.cell 13 1 (.int .u8) false,.keepR [13]])],
 [],[],false⟩
noncomputable def Et:bC:=⟨[.agg [(.own (.int .i64) false),(.own (.int .i64) false),(.own .str false)],.one (.int .i64)],[]⟩
noncomputable def DT:cp:=⟨134,aj Go.Proofs.Tryz.f24,[.cell 6 42,.tmp 7],
 [],
 [(0,[.keep [1,2,3,6,11,15,16,17,82,83],.cell 15 0 (.int .i64) false,.cell 15 1 (.int .i64) false,.cell 15 2 .str false,.cell 6 0 (.int .i64) false,.cell 6 1 (.int .i64) false,.cell 6 2 .str false,.keepR [3,6,15,48]])],
 [],[],false⟩
noncomputable def F8:bC:=⟨[.one .bool],[]⟩
noncomputable def Fp:cp:=⟨24,aj Go.Proofs.Tryz.f26,[.tmp 4],
 [],
 [],
 [],[],false⟩
noncomputable def EB:bC:=⟨[.one (.own .str false),.one (.int .i64)],[]⟩
noncomputable def D7:cp:=⟨94,aj Go.Proofs.Tryz.f34,[.tmp 8,.tmp 9],
 [],
 [(0,[.keep [1,3,4,6,11,13],.own 13 .str false,.keepR [4,6,2013]])],
 [],[],false⟩
noncomputable def EA:bC:=⟨[.agg [(.own (.int .i64) false),(.own (.int .i64) false),(.own .str false)],.one (.int .i64)],[]⟩
noncomputable def D6:cp:=⟨78,aj Go.Proofs.Tryz.f36,[.cell 6 42,.tmp 7],
 [],
 [(0,[.keep [1,3,6,8,9,17,18,19],.cell 6 0 (.int .i64) false,.cell 6 1 (.int .i64) false,.cell 6 2 .str false,.cell 8 0 (.int .i64) false,.cell 8 1 (.int .i64) false,.cell 8 2 .str false,.keepR [3,6,8]])],
 [],[],false⟩
noncomputable def FH:bC:=⟨[.one .bool],[]⟩
noncomputable def Ed:cp:=⟨26,aj Go.Proofs.Tryz.f38,[.tmp 4],
 [],
 [(0,[.keep [0,1,5],.keepR []])],
 [],[],false⟩
noncomputable def FZ:bC:=⟨[.one .bool],[]⟩
noncomputable def EY:cp:=⟨83,aj Go.Proofs.Tryz.f41,[.tmp 0],
 [],
 [],
 [],[],false⟩
noncomputable def Es:bC:=⟨[.one .bool],[]⟩
noncomputable def DL:cp:=⟨78,aj Go.Proofs.Tryz.f52,[.tmp 6],
 [],
 [(0,[.keep [1,3,5,8,53,54,55],.keepR [3,5]])],
 [],[],false⟩
noncomputable def E1:bC:=⟨[.one (.int .i64),.one (.int .i64),.one (.int .i64)],[]⟩
noncomputable def Eh:cp:=⟨44,aj Go.Proofs.Tryz.f53,[.tmp 4,.tmp 5,.tmp 6],
 [],
 [(0,[.keep [2,7,8,16,17,18],.own 16 (.int .i64) false,.keepR [2,2016]])],
 [],[],false⟩
noncomputable def F6:bC:=⟨[.one .str],[]⟩
noncomputable def E5:cp:=⟨16,aj Go.Proofs.Tryz.f54,[.tmp 4],
 [],
 [],
 [],[],false⟩
noncomputable def Gg:bC:=⟨[.one .str],[]⟩
noncomputable def FI:cp:=⟨25,aj Go.Proofs.Tryz.f56,[.tmp 4],
 [],
 [(0,[.keep [0,5,10,11],.own 5 (.int .u8) false,.keepR [2005]])],
 [],[],false⟩
noncomputable def FS:bC:=⟨[.one .str],[]⟩
noncomputable def ES:cp:=⟨45,aj Go.Proofs.Tryz.f57,[.tmp 2],
 [],
 [],
 [],[],false⟩
noncomputable def Dm:bC:=⟨[.one (.int .i64)],[]⟩
noncomputable def AS:cp:=⟨31,aj Go.Proofs.Tryz.f58,[.tmp 2],
 [],
 [(0,[.keep [0,3,7,8],.keepR []]),(2,[.keep [0,3,7,8,17],.keepR []])],
 [],[],false⟩
noncomputable def FU:bC:=⟨[.one .bool],[]⟩
noncomputable def FQ:cp:=⟨18,aj Go.Proofs.Tryz.f64,[.tmp 4],
 [],
 [],
 [],[],false⟩
noncomputable def FO:bC:=⟨[.one (.int .i64)],[]⟩
noncomputable def DZ:cp:=⟨22,aj Go.Proofs.Tryz.f65,[.tmp 2],
 [],
 [(0,[.keep [0,3,6,7],.keepR []])],
 [],[],false⟩
noncomputable def F3:bC:=⟨[.one (.int .i64)],[(0,[.str,.bool])]⟩
noncomputable def Fe:cp:=⟨27,aj Go.Proofs.Tryz.f66,[.tmp 2],
 [],
 [],
 [],[],false⟩
noncomputable def Ee:bC:=⟨[.one (.own (.int .i64) false),.one (.int .i64)],[]⟩
noncomputable def BS:cp:=⟨136,aj Go.Proofs.Tryz.f67,[.tmp 6,.tmp 7],
 [],
 [(0,[.keep [0,1,2,8],.cell 32 2 (.int .i64) false,.keepR [32]])],
 [(12,[.keep [0,1,2,8,9],.cell 32 2 (.int .i64) false,.keepR [32]])],[],false⟩
noncomputable def F4:bC:=⟨[.one .str],[(0,[.str,.bool])]⟩
noncomputable def Fh:cp:=⟨42,aj Go.Proofs.Tryz.f68,[.tmp 4],
 [],
 [],
 [],[],false⟩
noncomputable def FY:bC:=⟨[.one (.int .i64)],[]⟩
noncomputable def ER:cp:=⟨8,aj Go.Proofs.Tryz.f69,[.tmp 2],
 [],
 [],
 [],[],false⟩
noncomputable def Eu:bC:=⟨[.one (.int .i64)],[]⟩
noncomputable def Dp:cp:=⟨21,aj Go.Proofs.Tryz.f70,[.tmp 4],
 [],
 [(0,[.keep [1,5,8,9,10],.keepR []])],
 [],[],false⟩
noncomputable def FX:bC:=⟨[.one .str],[(0,[.str,.bool])]⟩
noncomputable def Fb:cp:=⟨22,aj Go.Proofs.Tryz.f71,[.tmp 4],
 [],
 [],
 [],[],false⟩
noncomputable def FA:bC:=⟨[.one .bool],[]⟩
noncomputable def Ds:cp:=⟨26,aj Go.Proofs.Tryz.f76,[.tmp 4],
 [],
 [(0,[.keep [0,1,5],.keepR []])],
 [],[],false⟩
noncomputable def Do:bC:=⟨[.one (.int .i64),.one (.int .i64)],[]⟩
noncomputable def BQ:cp:=⟨49,aj Go.Proofs.Tryz.f80,[.tmp 6,.tmp 7],
 [],
 [(0,[.keep [0,1,2,8,9,15,16,17],.keepR []])],
 [(9,[.keep [0,1,2,8,9,10,15,16,17],.keepR []])],[],false⟩
noncomputable def F5:bC:=⟨[.agg [(.own .node false)]],[]⟩
noncomputable def EJ:cp:=⟨4,aj Go.Proofs.Tryz.f81,[.cell 0 32],
 [],
 [],
 [],[],false⟩
noncomputable def FD:bC:=⟨[.one .bool],[]⟩
noncomputable def DD:cp:=⟨21,aj Go.Proofs.Tryz.f97,[.tmp 4],
 [],
 [(0,[.keep [1,7,8,9],.keepR []])],
 [],[],false⟩
noncomputable def Gj:bC:=⟨[.one .str],[]⟩
noncomputable def Ew:cp:=⟨1,aj Go.Proofs.Tryz.f98,[.tmp 0],
 [],
 [],
 [],[],false⟩
noncomputable def E2:bC:=⟨[.one .bool],[]⟩
noncomputable def DJ:cp:=⟨91,aj Go.Proofs.Tryz.f99,[.tmp 6],
 [],
 [(1,[.keep [7,8,11,13,70,71,72],.view 8 .str,.own 11 (.int .i64) false,.view 70 .str,.keepR [3,2011]])],
 [],[],false⟩
noncomputable def E6:bC:=⟨[.one .bool],[]⟩
noncomputable def CY:cp:=⟨18,aj Go.Proofs.Tryz.f100,[.tmp 4],
 [],
 [],
 [],[],false⟩
noncomputable def CW:bC:=⟨[.one (.own (.int .i64) false)],[]⟩
noncomputable def zI:cp:=⟨21,aj Go.Proofs.Tryz.f101,[.tmp 4],
 [],
 [(0,[.keep [0,1,5],.own 5 (.int .i64) false,.keepR [2005]])],
 [],[],false⟩
noncomputable def Dc:bC:=⟨[.one .str,.one (.int .i64)],[]⟩
noncomputable def yJ:cp:=⟨62,aj Go.Proofs.Tryz.f102,[.tmp 4,.tmp 5],
 [],
 [(0,[.keep [0,1,6],.bself 6,.cell 6 1 (.int .u8) false,.keepR [6]])],
 [],[],false⟩
noncomputable def EO:bC:=⟨[.one (.int .i64),.one (.own .str false),.one (.int .i64)],[]⟩
noncomputable def B8:cp:=⟨32,aj Go.Proofs.Tryz.f104,[.tmp 2,.tmp 3,.tmp 4],
 [],
 [],
 [],[],false⟩
noncomputable def Fj:bC:=⟨[.one (.int .i64),.one .err],[]⟩
noncomputable def FP:bC:=⟨[.one .bool],[]⟩
noncomputable def C7:cp:=⟨9,aj Go.Proofs.Tryz.f111,[.tmp 2],
 [],
 [],
 [],[],false⟩
noncomputable def EE:bC:=⟨[.one (.int .i64),.one (.int .i64)],[]⟩
noncomputable def B7:cp:=⟨48,aj Go.Proofs.Tryz.f112,[.tmp 6,.tmp 7],
 [],
 [],
 [],[],false⟩
noncomputable def Dj:bC:=⟨[.one (.int .i64),.one (.int .i64),.one (.int .i64)],[]⟩
noncomputable def zv:cp:=⟨70,aj Go.Proofs.Tryz.f113,[.tmp 4,.tmp 5,.tmp 6],
 [],
 [(0,[.keep [0,1,7,8],.keepR []])],
 [],[],false⟩
noncomputable def EP:bC:=⟨[],[(0,[.str,(.int .i64),(.own (.int .i64) false),.bool])]⟩
noncomputable def Db:cp:=⟨44,aj Go.Proofs.Tryz.f114,[],
 [(1000000,[.cell 1000 2 (.int .i64) false])],
 [],
 [],[],false⟩
noncomputable def Aq:bC:=⟨[],[(0,[.str,(.int .i64),(.own (.int .i64) false),.bool])]⟩
noncomputable def wB:cp:=⟨74,aj Go.Proofs.Tryz.f115,[],
 [],
 [(0,[.keep [0,6,30,31],.cell 1000 2 (.int .i64) false,.keepR [1000]]),(2,[.keep [0,6,7,8,30,31,37,38],.cell 1000 2 (.int .i64) false,.keepR [1000]])],
 [],[],false⟩
noncomputable def En:bC:=⟨[.one (.int .i64)],[]⟩
noncomputable def C3:cp:=⟨25,aj Go.Proofs.Tryz.f117,[.tmp 2],
 [],
 [],
 [(4,[.keep [0,2],.keepR []]),(7,[.keep [0,2],.keepR []])],[],false⟩
noncomputable def ED:bC:=⟨[.one .str],[]⟩
noncomputable def Cf:cp:=⟨7,aj Go.Proofs.Tryz.f118,[.tmp 2],
 [],
 [],
 [],[],false⟩
noncomputable def Ep:bC:=⟨[.one .str],[]⟩
noncomputable def B9:cp:=⟨4,aj Go.Proofs.Tryz.f119,[.tmp 2],
 [],
 [],
 [],[],false⟩
noncomputable def EN:bC:=⟨[.one .str],[]⟩
noncomputable def C9:cp:=⟨10,aj Go.Proofs.Tryz.f120,[.tmp 2],
 [],
 [],
 [],[],false⟩
noncomputable def E0:bC:=⟨[.one .str],[(0,[.str,.bool])]⟩
noncomputable def CV:cp:=⟨7,aj Go.Proofs.Tryz.f121,[.tmp 2],
 [],
 [],
 [],[],false⟩
noncomputable def E3:bC:=⟨[.one (.own (.int .i64) false),.one (.int .i64)],[]⟩
noncomputable def B6:cp:=⟨12,aj Go.Proofs.Tryz.f141,[.tmp 4,.tmp 5],
 [],
 [],
 [],[],false⟩
noncomputable def Fq:bC:=⟨[.one .bool],[]⟩
noncomputable def CJ:cp:=⟨10,aj Go.Proofs.Tryz.f142,[.tmp 5],
 [],
 [],
 [],[],false⟩
noncomputable def EK:bC:=⟨[.one .bool],[]⟩
noncomputable def C4:cp:=⟨33,aj Go.Proofs.Tryz.f143,[.tmp 6],
 [],
 [(0,[.keep [0,1,2,12,13],.keepR []])],
 [],[],false⟩
noncomputable def zK:bC:=⟨[.one .bool],[]⟩
noncomputable def wK:cp:=⟨74,aj Go.Proofs.Tryz.f144,[.tmp 2],
 [],
 [(0,[.keep [1,19,20,21],.keepR [1]]),(2,[.keep [1,41,42,43],.keepR [1]])],
 [],[],false⟩
noncomputable def EU:bC:=⟨[.one .bool],[]⟩
noncomputable def B5:cp:=⟨24,aj Go.Proofs.Tryz.f145,[.tmp 4],
 [],
 [],
 [],[],false⟩
noncomputable def CM:bC:=⟨[.one (.int .i64)],[]⟩
noncomputable def yy:cp:=⟨21,aj Go.Proofs.Tryz.f146,[.tmp 2],
 [],
 [(0,[.keep [0,5,6,7],.keepR []])],
 [],[],false⟩
noncomputable def C5:bC:=⟨[.one .str,.one (.int .i64)],[]⟩
noncomputable def zn:cp:=⟨24,aj Go.Proofs.Tryz.f147,[.tmp 2,.tmp 3],
 [],
 [(0,[.keep [0,4],.own 4 (.int .u8) false,.keepR [2004]])],
 [],[],false⟩
noncomputable def Fg:bC:=⟨[.one (.int .i64)],[]⟩
noncomputable def C2:cp:=⟨6,aj Go.Proofs.Tryz.f148,[.tmp 2],
 [],
 [],
 [],[],false⟩
noncomputable def Di:bC:=⟨[.one (.int .i64)],[]⟩
noncomputable def yN:cp:=⟨18,aj Go.Proofs.Tryz.f149,[.tmp 2],
 [],
 [(0,[.keep [0,3],.keepR []])],
 [],[],false⟩
noncomputable def Ax:bC:=⟨[.one .str],[]⟩
noncomputable def wu:cp:=⟨45,aj Go.Proofs.Tryz.f150,[.tmp 4],
 [],
 [(0,[.keep [1,5,18,19,20],.own 5 .bool false,.keepR [2005]]),(2,[.keep [1,5,6,7,18,19,20,25,26],.own 5 .bool false,.keepR [2005]])],
 [],[],false⟩
noncomputable def FN:bC:=⟨[.one (.int .i64),.one (.own .str false)],[(0,[.str,.bool])]⟩
noncomputable def Cj:cp:=⟨65,aj Go.Proofs.Tryz.f152,[.tmp 4,.tmp 5],
 [],
 [],
 [],[],false⟩
noncomputable def Ff:bC:=⟨[.one .bool],[]⟩
noncomputable def Cb:cp:=⟨9,aj Go.Proofs.Tryz.f155,[.tmp 2],
 [],
 [],
 [],[],false⟩
noncomputable def Fv:bC:=⟨[.one .str],[(0,[.str,(.int .i64),(.own (.int .i64) false),.bool])]⟩
noncomputable def CC:cp:=⟨38,aj Go.Proofs.Tryz.f156,[.tmp 4],
 [],
 [],
 [],[],false⟩
noncomputable def wj:bC:=⟨[.one (.own (.int .i64) false)],[]⟩
noncomputable def uK:cp:=⟨48,aj Go.Proofs.Tryz.f157,[.tmp 4],
 [],
 [(0,[.keep [7,8],.own 7 (.int .i64) false,.keepR [2007]])],
 [(3,[.keep [0,1],.keepR []]),(6,[.keep [0,6],.keepR []])],[],false⟩
noncomputable def FC:bC:=⟨[.one .bool],[]⟩
noncomputable def Df:cp:=⟨14,aj Go.Proofs.Tryz.f158,[.tmp 4],
 [],
 [],
 [],[],false⟩
noncomputable def EV:bC:=⟨[.one .str],[]⟩
noncomputable def Ce:bC:=⟨[.one (.own (.int .i64) false)],[]⟩
noncomputable def yX:cp:=⟨32,aj Go.Proofs.Tryz.f172,[.tmp 4],
 [],
 [(0,[.keep [1,5,11,12,13],.own 5 (.int .i64) false,.keepR [2005]])],
 [],[],false⟩
noncomputable def Ey:bC:=⟨[.one .bool],[]⟩
noncomputable def CZ:cp:=⟨36,aj Go.Proofs.Tryz.f173,[.tmp 4],
 [],
 [],
 [],[],false⟩
noncomputable def FG:bC:=⟨[.one .bool],[]⟩
noncomputable def CL:cp:=⟨12,aj Go.Proofs.Tryz.f174,[.tmp 3],
 [],
 [],
 [],[],false⟩
noncomputable def Fo:bC:=⟨[.one .bool],[]⟩
noncomputable def CB:cp:=⟨9,aj Go.Proofs.Tryz.f175,[.tmp 4],
 [],
 [],
 [],[],false⟩
noncomputable def Cc:bC:=⟨[.one .str],[]⟩
noncomputable def AB:cp:=⟨31,aj Go.Proofs.Tryz.f176,[.tmp 2],
 [],
 [(0,[.keep [3,10,11,12],.own 3 (.int .u8) false,.keepR [2003]])],
 [],[],false⟩
noncomputable def EM:bC:=⟨[.one (.int .i64),.one (.own .str false)],[(0,[.str,.bool])]⟩
noncomputable def CU:cp:=⟨7,aj Go.Proofs.Tryz.f177,[.tmp 2,.tmp 3],
 [],
 [],
 [],[],false⟩
noncomputable def FB:bC:=⟨[.one (.int .u8)],[(0,[.str,.bool])]⟩
noncomputable def Ci:cp:=⟨26,aj Go.Proofs.Tryz.f178,[.tmp 2],
 [],
 [],
 [],[],false⟩
noncomputable def EH:bC:=⟨[.one (.int .i64),.one .str],[(0,[.str,.bool])]⟩
noncomputable def CX:cp:=⟨47,aj Go.Proofs.Tryz.f179,[.tmp 4,.tmp 5],
 [],
 [],
 [],[],false⟩
noncomputable def Fa:bC:=⟨[.one .str],[(0,[.str,.bool])]⟩
noncomputable def Cd:cp:=⟨42,aj Go.Proofs.Tryz.f180,[.tmp 4],
 [],
 [],
 [],[],false⟩
noncomputable def CS:bC:=⟨[.one (.own .str false)],[(0,[.str,.bool])]⟩
noncomputable def yV:cp:=⟨53,aj Go.Proofs.Tryz.f181,[.tmp 6],
 [],
 [(0,[.keep [0,1,2,7],.own 7 .str false,.keepR [1000,2007]])],
 [],[],false⟩
noncomputable def EF:bC:=⟨[.one (.int .u64),.one (.int .u64)],[]⟩
noncomputable def CH:cp:=⟨30,aj Go.Proofs.Tryz.f187,[.tmp 4,.tmp 5],
 [],
 [],
 [],[],false⟩
noncomputable def C0:bC:=⟨[.one (.int .i64)],[]⟩
noncomputable def AC:cp:=⟨19,aj Go.Proofs.Tryz.f192,[.tmp 4],
 [],
 [(0,[.keep [0,1,7,8],.keepR []])],
 [],[],false⟩
noncomputable def EC:bC:=⟨[.one .str,.one .str,.one .bool],[]⟩
noncomputable def E8:bC:=⟨[.one (.int .u64),.one (.int .u64)],[]⟩
noncomputable def CQ:cp:=⟨51,aj Go.Proofs.Tryz.f198,[.tmp 4,.tmp 5],
 [],
 [],
 [],[],false⟩
noncomputable def Gl:List (Nat×gB):=[
 (3,⟨false,1,8,[(.int .i64 0)],some .i64,false,none,0,[],0,[],false,false,false,false⟩),
 (4,⟨false,1,1,[(.bool false)],none,false,none,0,[],0,[],false,true,false,false⟩),
 (5,⟨false,1,1,[(.int .u8 0)],some .u8,false,none,0,[],0,[],false,false,false,false⟩),
 (9,⟨false,1,16,[(.str [])],none,true,none,0,[],0,[],false,false,false,false⟩),
 (23,⟨false,1,24,[.nils],none,false,some .str,9,[(.str [])],16,[],false,false,false,false⟩),
 (30,⟨false,1,24,[.nils],none,false,some .node,58,[(.int .i64 0),(.int .i64 0),(.bool false)],24,[],false,false,false,false⟩),
 (32,⟨true,1,24,[.nils],none,false,none,0,[],0,[(0,1,30)],false,false,false,false⟩),
 (34,⟨false,1,8,[(.int .u64 0)],some .u64,false,none,0,[],0,[],false,false,false,false⟩),
 (40,⟨false,1,24,[.nils],none,false,some (.int .i64),3,[(.int .i64 0)],8,[],false,false,false,false⟩),
 (42,⟨true,3,72,[.nils,.nils,.nils],none,false,none,0,[],0,[(0,1,40),(1,1,40),(2,1,23)],false,false,false,false⟩),
 (55,⟨false,1,24,[.nils],none,false,some (.int .u8),5,[(.int .u8 0)],1,[],false,false,false,false⟩),
 (58,⟨true,3,24,[(.int .i64 0),(.int .i64 0),(.bool false)],none,false,none,0,[],0,[(0,1,3),(1,1,3),(2,1,4)],true,false,false,false⟩),
 (91,⟨true,2,32,[.nilp,.nils],none,false,none,0,[],0,[(0,1,89),(1,1,55)],false,false,true,false⟩),
 (93,⟨false,1,16,[.und],none,false,none,0,[],0,[],false,false,false,true⟩),
 (104,⟨true,2,24,[(.str []),(.bool false)],none,false,none,0,[],0,[(0,1,9),(1,1,4)],true,false,false,false⟩),
 (119,⟨false,1,4,[(.int .u32 0)],some .u32,false,none,0,[],0,[],false,false,false,false⟩),
 (131,⟨false,1,24,[.nils],none,false,some .bool,4,[(.bool false)],1,[],false,false,false,false⟩),
 (148,⟨false,1,8,[(.int .u64 0)],some .u64,false,none,0,[],0,[],false,false,false,false⟩),
 (153,⟨true,4,56,[(.str []),(.int .i64 0),.nils,(.bool false)],none,false,none,0,[],0,[(0,1,9),(1,1,3),(2,1,40),(3,1,4)],false,false,false,false⟩),
 (179,⟨true,2,24,[(.str []),(.bool false)],none,false,none,0,[],0,[(0,1,9),(1,1,4)],true,false,false,false⟩)]
noncomputable def E4:List (Nat×List PK):=[
 (14,[.agg [(.list .node)],.one (.int .i64),.agg [(.list (.int .i64)),(.list (.int .i64)),(.list .str)],.agg [(.list (.int .i64)),(.list (.int .i64)),(.list .str)],.one (.int .i64)]),
 (20,[.one (.int .i64)]),
 (21,[.agg [(.list (.int .i64)),(.list (.int .i64)),(.list .str)]]),
 (22,[.agg [(.list .node)],.one (.int .i64),.agg [(.list (.int .i64)),(.list (.int .i64)),(.list .str)]]),
 (24,[.agg [(.list .node)],.one (.int .i64),.one .str]),
 (26,[.agg [(.list (.int .i64)),(.list (.int .i64)),(.list .str)],.agg [(.list (.int .i64)),(.list (.int .i64)),(.list .str)]]),
 (34,[.agg [(.list .node)],.one (.int .i64),.agg [(.list (.int .i64)),(.list (.int .i64)),(.list .str)],.one (.int .i64)]),
 (36,[.agg [(.list .node)],.one (.int .i64),.one (.list .str)]),
 (38,[.one (.list .str),.one (.list .str)]),
 (41,[]),
 (52,[.agg [(.list .node)],.one (.int .i64),.agg [(.list (.int .i64)),(.list (.int .i64)),(.list .str)]]),
 (53,[.agg [(.list .node)],.one (.int .i64)]),
 (54,[.one (.list (.int .i64)),.one (.int .i64)]),
 (55,[.bw 91,.one .str]),
 (56,[.one (.int .i64),.one (.int .i64)]),
 (57,[.one .str]),
 (58,[.one .str]),
 (59,[.br 91 5]),
 (64,[.agg [(.list .node)],.one (.int .i64)]),
 (65,[.one .str]),
 (66,[.rw [.str,.bool]]),
 (67,[.one .str,.one (.int .i64),.one (.int .i64)]),
 (68,[.rw [.str,.bool],.one (.int .i64)]),
 (69,[.one (.int .u64)]),
 (70,[.one (.list (.int .i64)),.one (.int .i64)]),
 (71,[.rw [.str,.bool],.one (.int .i64)]),
 (76,[.one (.list (.int .i64)),.one (.list (.int .i64))]),
 (80,[.ro [(.list (.int .i64)),(.list (.int .i64)),(.list .str)],.one (.int .i64),.one (.int .i64)]),
 (81,[]),
 (97,[.one (.list (.int .i64)),.one (.int .i64)]),
 (98,[]),
 (99,[.agg [(.list .node)],.one (.int .i64),.one .str]),
 (100,[.agg [(.list .node)],.one (.int .i64)]),
 (101,[.ro [(.list .node)],.one (.int .i64)]),
 (102,[.one (.list (.int .i64)),.one (.int .i64)]),
 (104,[.one .str]),
 (105,[.one .str]),
 (111,[.one (.int .i64)]),
 (112,[.one .str,.one (.int .i64),.one (.int .i64)]),
 (113,[.one .str,.one (.int .i64)]),
 (114,[.rw [.str,(.int .i64),(.own (.int .i64) false),.bool],.one (.int .i64),.one (.int .i64)]),
 (115,[.rw [.str,(.int .i64),(.own (.int .i64) false),.bool],.one (.int .i64),.one (.int .i64)]),
 (117,[.one (.int .u64)]),
 (118,[.one (.int .i64)]),
 (119,[.one .bool]),
 (120,[.one .str]),
 (121,[.rw [.str,.bool]]),
 (141,[.agg [(.list .node)],.one (.int .i64)]),
 (142,[.one (.int .i64),.one .str,.ro [(.list .node)]]),
 (143,[.one (.list (.int .i64)),.one (.list .str),.fn]),
 (144,[.agg [(.list .node)]]),
 (145,[.one (.list (.int .i64)),.one (.int .i64)]),
 (146,[.one (.list (.int .i64))]),
 (147,[.one (.int .i64)]),
 (148,[.one (.int .i64)]),
 (149,[.one (.list (.int .i64))]),
 (150,[.one (.list (.int .i64)),.one (.int .i64)]),
 (152,[.rw [.str,.bool],.one (.int .i64)]),
 (155,[.one (.int .i64)]),
 (156,[.rw [.str,(.int .i64),(.own (.int .i64) false),.bool],.one (.int .i64)]),
 (157,[.one (.list (.int .i64)),.one (.int .i64)]),
 (158,[.one .str,.one (.int .i64)]),
 (159,[.one (.int .i64)]),
 (172,[.ro [(.list .node)],.one (.int .i64)]),
 (173,[.ro [(.list .node)],.one (.int .i64)]),
 (174,[.one (.int .i64),.ro [(.int .i64)]]),
 (175,[.one (.list (.int .i64)),.fn]),
 (176,[.one (.list .bool)]),
 (177,[.rw [.str,.bool]]),
 (178,[.rw [.str,.bool]]),
 (179,[.rw [.str,.bool],.one .str]),
 (180,[.rw [.str,.bool],.one (.int .i64)]),
 (181,[.rw [.str,.bool],.one (.int .u8),.one (.int .i64)]),
 (187,[.one (.int .u64),.one (.int .u64)]),
 (192,[.one (.list (.int .i64)),.fn]),
 (193,[.one .str,.one .str]),
 (198,[.one (.int .u64),.one (.int .u64)])]
noncomputable def Gu:List (Nat×bC):=[(14,FW),(20,F2),(21,FV),(22,Dw),(24,Et),(26,F8),(34,EB),(36,EA),(38,FH),(41,FZ),(52,Es),(53,E1),(54,F6),(56,Gg),(57,FS),(58,Dm),(64,FU),(65,FO),(66,F3),(67,Ee),(68,F4),(69,FY),(70,Eu),(71,FX),(76,FA),(80,Do),(81,F5),(97,FD),(98,Gj),(99,E2),(100,E6),(101,CW),(102,Dc),(104,EO),(105,Fj),(111,FP),(112,EE),(113,Dj),(114,EP),(115,Aq),(117,En),(118,ED),(119,Ep),(120,EN),(121,E0),(141,E3),(142,Fq),(143,EK),(144,zK),(145,EU),(146,CM),(147,C5),(148,Fg),(149,Di),(150,Ax),(152,FN),(155,Ff),(156,Fv),(157,wj),(158,FC),(159,EV),(172,Ce),(173,Ey),(174,FG),(175,Fo),(176,Cc),(177,EM),(178,FB),(179,EH),(180,Fa),(181,CS),(187,EF),(192,C0),(193,EC),(198,E8)]
noncomputable def Gk:List (Nat×cp):=[(14,EW),(20,E7),(21,Eo),(22,AW),(24,DT),(26,Fp),(34,D7),(36,D6),(38,Ed),(41,EY),(52,DL),(53,Eh),(54,E5),(56,FI),(57,ES),(58,AS),(64,FQ),(65,DZ),(66,Fe),(67,BS),(68,Fh),(69,ER),(70,Dp),(71,Fb),(76,Ds),(80,BQ),(81,EJ),(97,DD),(98,Ew),(99,DJ),(100,CY),(101,zI),(102,yJ),(104,B8),(111,C7),(112,B7),(113,zv),(114,Db),(115,wB),(117,C3),(118,Cf),(119,B9),(120,C9),(121,CV),(141,B6),(142,CJ),(143,C4),(144,wK),(145,B5),(146,yy),(147,zn),(148,C2),(149,yN),(150,wu),(152,Cj),(155,Cb),(156,CC),(157,uK),(158,Df),(172,yX),(173,CZ),(174,CL),(175,CB),(176,AB),(177,CU),(178,Ci),(179,CX),(180,Cd),(181,yV),(187,CH),(192,AC),(198,CQ)]
noncomputable def zX (f:FuncId):List PK:=match look f E4 with|some l=>l|none=>[]
noncomputable def ow (f:FuncId):bC:=match look f Gu with|some s=>s|none=>⟨[],[]⟩
noncomputable def Av (f:FuncId)(args:List kh):Option (ow f).den:=
 if h:f=105 then h.symm ▸ (show Option (ow 105).den from pz args) else
 if h:f=159 then h.symm ▸ (show Option (ow 159).den from qt args) else
 if h:f=193 then h.symm ▸ (show Option (ow 193).den from sd args) else
 none
noncomputable def E (bar:aD):dK:=⟨fun f=>look f Gk,fun t=>look t Gl,zX,ow,Av,bar⟩
end Go.Proofs.YtjkokaockhecnaaGreatDoorA
