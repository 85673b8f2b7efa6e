/- The functions, types, parameters and results of the program, as the machine is told of them: definitions alone. -/
import Derived.Test.YtjkokaockhecnaaGreatDoorProg
import Derived.Test.YtjkokaockhecnaaGreatDoorExt
namespace Go.Proofs.YtjkokaockhecnaaGreatDoorA
open Go
set_option linter.unusedVariables false
noncomputable def aj (f:Func):Code:=match f.body with|some c=>c|none=>.skip
noncomputable def CY:bc:=⟨[.one .bool],[]⟩
noncomputable def Cb:bT:=⟨136,aj Go.Proofs.Tryz.f6,[.tmp 4],
 [(29,[.froze 23 0])],
 [],
 [(38,[.keep [6,7,8,9],.cell 6 0 .node false,.cellv 7 0 (.int .i64),.cellv 7 1 (.int .i64),.cell 7 2 .str false,.cell 8 0 (.int .i64) false,.cell 8 1 (.int .i64) false,.cell 8 2 .str false,.keepR [6,7,8]])],[],false⟩
noncomputable def Ce:bc:=⟨[.one (.int .i64)],[]⟩
noncomputable def Bv:bT:=⟨4,aj Go.Proofs.Tryz.f20,[.tmp 2],
 [],
 [],
 [],[],false⟩
noncomputable def CN:bc:=⟨[.agg [(.own (.int .i64) false),(.own (.int .i64) false),(.own .str false)]],[]⟩
noncomputable def BV:bT:=⟨16,aj Go.Proofs.Tryz.f21,[.cell 2 42],
 [],
 [],
 [],[],false⟩
noncomputable def zK:bc:=⟨[.one .str,.one (.int .i64)],[]⟩
noncomputable def xN:bT:=⟨75,aj Go.Proofs.Tryz.f22,[.tmp 6,.tmp 7],
 [],
 [(0,[.keep [5,11,12,13,45,46,47],.bself 13,.own 45 (.int .i64) false,.cell 13 1 (.int .u8) false,.keepR [5,13,2045]]),(2,[.keep [13,60,61,62],.bself 13,.cell 13 1 (.int .u8) false,.keepR [13]])],
 [],[],false⟩
noncomputable def B9:bc:=⟨[.agg [(.own (.int .i64) false),(.own (.int .i64) false),(.own .str false)],.one (.int .i64)],[]⟩
noncomputable def Ax:bT:=⟨134,aj Go.Proofs.Tryz.f24,[.cell 6 42,.tmp 7],
 [],
 [(0,[.keep [1,2,3,6,11,15,16,17,82,83],.cell 15 0 (.int .i64) false,.cell 15 1 (.int .i64) false,.cell 15 2 .str false,.cell 6 0 (.int .i64) false,.cell 6 1 (.int .i64) false,.cell 6 2 .str false,.keepR [3,6,15,48]])],
 [],[],false⟩
noncomputable def CU:bc:=⟨[.one .bool],[]⟩
noncomputable def AN:bT:=⟨24,aj Go.Proofs.Tryz.f26,[.tmp 4],
 [],
 [],
 [],[],false⟩
noncomputable def CP:bc:=⟨[.one .bool],[]⟩
noncomputable def AE:bT:=⟨87,aj Go.Proofs.Tryz.f28,[.tmp 0],
 [],
 [],
 [],[],false⟩
noncomputable def CQ:bc:=⟨[.agg [(.own .node false)]],[]⟩
noncomputable def Bw:bT:=⟨4,aj Go.Proofs.Tryz.f29,[.cell 0 32],
 [],
 [],
 [],[],false⟩
noncomputable def CB:bc:=⟨[.one .bool],[]⟩
noncomputable def BB:bT:=⟨26,aj Go.Proofs.Tryz.f38,[.tmp 4],
 [],
 [(0,[.keep [0,1,5],.keepR []])],
 [],[],false⟩
noncomputable def AX:bc:=⟨[.one .bool],[]⟩
noncomputable def zU:bT:=⟨78,aj Go.Proofs.Tryz.f52,[.tmp 6],
 [],
 [(0,[.keep [1,3,5,8,53,54,55],.keepR [3,5]])],
 [],[],false⟩
noncomputable def AD:bc:=⟨[.one (.int .i64),.one (.int .i64),.one (.int .i64)],[]⟩
noncomputable def zN:bT:=⟨44,aj Go.Proofs.Tryz.f53,[.tmp 4,.tmp 5,.tmp 6],
 [],
 [(0,[.keep [2,7,8,16,17,18],.own 16 (.int .i64) false,.keepR [2,2016]])],
 [],[],false⟩
noncomputable def Cj:bc:=⟨[.one .str],[]⟩
noncomputable def A2:bT:=⟨16,aj Go.Proofs.Tryz.f54,[.tmp 4],
 [],
 [],
 [],[],false⟩
noncomputable def CL:bc:=⟨[.one .str],[]⟩
noncomputable def Bd:bT:=⟨25,aj Go.Proofs.Tryz.f56,[.tmp 4],
 [],
 [(0,[.keep [0,5,10,11],.own 5 (.int .u8) false,.keepR [2005]])],
 [],[],false⟩
noncomputable def Cc:bc:=⟨[.one .str],[]⟩
noncomputable def By:bT:=⟨45,aj Go.Proofs.Tryz.f57,[.tmp 2],
 [],
 [],
 [],[],false⟩
noncomputable def zP:bc:=⟨[.one (.int .i64)],[]⟩
noncomputable def yM:bT:=⟨31,aj Go.Proofs.Tryz.f58,[.tmp 2],
 [],
 [(0,[.keep [0,3,7,8],.keepR []]),(2,[.keep [0,3,7,8,17],.keepR []])],
 [],[],false⟩
noncomputable def CC:bc:=⟨[.one .bool],[]⟩
noncomputable def BP:bT:=⟨18,aj Go.Proofs.Tryz.f64,[.tmp 4],
 [],
 [],
 [],[],false⟩
noncomputable def B7:bc:=⟨[.one (.int .i64)],[]⟩
noncomputable def Bm:bT:=⟨22,aj Go.Proofs.Tryz.f65,[.tmp 2],
 [],
 [(0,[.keep [0,3,6,7],.keepR []])],
 [],[],false⟩
noncomputable def Cd:bc:=⟨[.one (.int .i64)],[(0,[.str,.bool])]⟩
noncomputable def BM:bT:=⟨27,aj Go.Proofs.Tryz.f66,[.tmp 2],
 [],
 [],
 [],[],false⟩
noncomputable def CS:bc:=⟨[.one (.own (.int .i64) false),.one (.int .i64)],[]⟩
noncomputable def AZ:bT:=⟨136,aj Go.Proofs.Tryz.f67,[.tmp 6,.tmp 7],
 [],
 [(0,[.keep [0,1,2,8],.cell 32 2 (.int .i64) false,.keepR [32]])],
 [(12,[.keep [0,1,2,8,9],.cell 32 2 (.int .i64) false,.keepR [32]])],[],false⟩
noncomputable def CH:bc:=⟨[.one .str],[(0,[.str,.bool])]⟩
noncomputable def Br:bT:=⟨42,aj Go.Proofs.Tryz.f68,[.tmp 4],
 [],
 [],
 [],[],false⟩
noncomputable def CM:bc:=⟨[.one (.int .i64)],[]⟩
noncomputable def BU:bT:=⟨8,aj Go.Proofs.Tryz.f69,[.tmp 2],
 [],
 [],
 [],[],false⟩
noncomputable def Bq:bc:=⟨[.one (.int .i64)],[]⟩
noncomputable def zE:bT:=⟨21,aj Go.Proofs.Tryz.f70,[.tmp 4],
 [],
 [(0,[.keep [1,5,8,9,10],.keepR []])],
 [],[],false⟩
noncomputable def B6:bc:=⟨[.one .str],[(0,[.str,.bool])]⟩
noncomputable def AC:bT:=⟨22,aj Go.Proofs.Tryz.f71,[.tmp 4],
 [],
 [],
 [],[],false⟩
noncomputable def CE:bc:=⟨[.one .bool],[]⟩
noncomputable def AB:bT:=⟨26,aj Go.Proofs.Tryz.f76,[.tmp 4],
 [],
 [(0,[.keep [0,1,5],.keepR []])],
 [],[],false⟩
noncomputable def Cf:bc:=⟨[.one .bool],[]⟩
noncomputable def AA:bT:=⟨99,aj Go.Proofs.Tryz.f78,[.tmp 2],
 [],
 [(0,[.keep [1,3,4],.own 3 (.int .i64) false,.keepR [1,2003]])],
 [],[],false⟩
noncomputable def Cm:bc:=⟨[.one .bool],[]⟩
noncomputable def A4:bT:=⟨9,aj Go.Proofs.Tryz.f89,[.tmp 2],
 [],
 [],
 [],[],false⟩
noncomputable def AG:bc:=⟨[.one .bool],[]⟩
noncomputable def zY:bT:=⟨21,aj Go.Proofs.Tryz.f97,[.tmp 4],
 [],
 [(0,[.keep [1,7,8,9],.keepR []])],
 [],[],false⟩
noncomputable def CO:bc:=⟨[.one .str],[]⟩
noncomputable def Bn:bT:=⟨1,aj Go.Proofs.Tryz.f98,[.tmp 0],
 [],
 [],
 [],[],false⟩
noncomputable def Bo:bc:=⟨[.one .bool],[]⟩
noncomputable def Ag:bT:=⟨91,aj Go.Proofs.Tryz.f99,[.tmp 6],
 [],
 [(1,[.keep [7,8,11,13,70,71,72],.view 8 .str,.own 11 (.int .i64) false,.view 70 .str,.keepR [3,2011]])],
 [],[],false⟩
noncomputable def BQ:bc:=⟨[.one .bool],[]⟩
noncomputable def ze:bT:=⟨18,aj Go.Proofs.Tryz.f100,[.tmp 4],
 [],
 [],
 [],[],false⟩
noncomputable def zp:bc:=⟨[.one (.own (.int .i64) false)],[]⟩
noncomputable def wY:bT:=⟨21,aj Go.Proofs.Tryz.f101,[.tmp 4],
 [],
 [(0,[.keep [0,1,5],.own 5 (.int .i64) false,.keepR [2005]])],
 [],[],false⟩
noncomputable def zv:bc:=⟨[.one .str,.one (.int .i64)],[]⟩
noncomputable def vw:bT:=⟨62,aj Go.Proofs.Tryz.f102,[.tmp 4,.tmp 5],
 [],
 [(0,[.keep [0,1,6],.bself 6,.cell 6 1 (.int .u8) false,.keepR [6]])],
 [],[],false⟩
noncomputable def BW:bc:=⟨[.one (.int .i64),.one (.own .str false),.one (.int .i64)],[]⟩
noncomputable def zf:bT:=⟨32,aj Go.Proofs.Tryz.f104,[.tmp 2,.tmp 3,.tmp 4],
 [],
 [],
 [],[],false⟩
noncomputable def BX:bc:=⟨[.one (.int .i64),.one .err],[]⟩
noncomputable def B1:bc:=⟨[.one .bool],[]⟩
noncomputable def zm:bT:=⟨9,aj Go.Proofs.Tryz.f111,[.tmp 2],
 [],
 [],
 [],[],false⟩
noncomputable def A1:bc:=⟨[.one (.int .i64),.one (.int .i64)],[]⟩
noncomputable def zt:bT:=⟨48,aj Go.Proofs.Tryz.f112,[.tmp 6,.tmp 7],
 [],
 [],
 [],[],false⟩
noncomputable def A0:bc:=⟨[.one (.int .i64),.one (.int .i64),.one (.int .i64)],[]⟩
noncomputable def zy:bT:=⟨70,aj Go.Proofs.Tryz.f113,[.tmp 4,.tmp 5,.tmp 6],
 [],
 [(0,[.keep [0,1,7,8],.keepR []])],
 [],[],false⟩
noncomputable def BI:bc:=⟨[],[(0,[.str,(.int .i64),(.own (.int .i64) false),.bool])]⟩
noncomputable def zz:bT:=⟨44,aj Go.Proofs.Tryz.f114,[],
 [(1000000,[.cell 1000 2 (.int .i64) false])],
 [],
 [],[],false⟩
noncomputable def BL:bc:=⟨[],[(0,[.str,(.int .i64),(.own (.int .i64) false),.bool])]⟩
noncomputable def yW:bT:=⟨74,aj Go.Proofs.Tryz.f115,[],
 [],
 [(0,[.keep [0,6,30,31],.cell 1000 2 (.int .i64) false,.keepR [1000]]),(2,[.keep [0,6,7,8,30,31,37,38],.cell 1000 2 (.int .i64) false,.keepR [1000]])],
 [],[],false⟩
noncomputable def AU:bc:=⟨[.one (.int .i64)],[]⟩
noncomputable def zg:bT:=⟨25,aj Go.Proofs.Tryz.f117,[.tmp 2],
 [],
 [],
 [(4,[.keep [0,2],.keepR []]),(7,[.keep [0,2],.keepR []])],[],false⟩
noncomputable def AW:bc:=⟨[.one .str],[]⟩
noncomputable def y6:bT:=⟨7,aj Go.Proofs.Tryz.f118,[.tmp 2],
 [],
 [],
 [],[],false⟩
noncomputable def BZ:bc:=⟨[.one .str],[]⟩
noncomputable def zb:bT:=⟨4,aj Go.Proofs.Tryz.f119,[.tmp 2],
 [],
 [],
 [],[],false⟩
noncomputable def BH:bc:=⟨[.one .str],[]⟩
noncomputable def zA:bT:=⟨10,aj Go.Proofs.Tryz.f120,[.tmp 2],
 [],
 [],
 [],[],false⟩
noncomputable def AK:bc:=⟨[.one .str],[(0,[.str,.bool])]⟩
noncomputable def zn:bT:=⟨7,aj Go.Proofs.Tryz.f121,[.tmp 2],
 [],
 [],
 [],[],false⟩
noncomputable def AL:bc:=⟨[.one .bool],[]⟩
noncomputable def zj:bT:=⟨15,aj Go.Proofs.Tryz.f128,[.tmp 6],
 [],
 [],
 [],[],false⟩
noncomputable def Bz:bc:=⟨[.one (.own (.int .i64) false)],[]⟩
noncomputable def yY:bT:=⟨27,aj Go.Proofs.Tryz.f129,[.tmp 4],
 [],
 [(0,[.keep [1,2,5,6],.own 5 (.int .i64) false,.keepR [2,2005]])],
 [],[],false⟩
noncomputable def AS:bc:=⟨[.one (.own (.int .i64) false),.one (.int .i64)],[]⟩
noncomputable def zl:bT:=⟨12,aj Go.Proofs.Tryz.f141,[.tmp 4,.tmp 5],
 [],
 [],
 [],[],false⟩
noncomputable def AO:bc:=⟨[.one .bool],[]⟩
noncomputable def za:bT:=⟨10,aj Go.Proofs.Tryz.f142,[.tmp 5],
 [],
 [],
 [],[],false⟩
noncomputable def A3:bc:=⟨[.one .bool],[]⟩
noncomputable def yV:bT:=⟨33,aj Go.Proofs.Tryz.f143,[.tmp 6],
 [],
 [(0,[.keep [0,1,2,12,13],.keepR []])],
 [],[],false⟩
noncomputable def wW:bc:=⟨[.one .bool],[]⟩
noncomputable def tO:bT:=⟨74,aj Go.Proofs.Tryz.f144,[.tmp 2],
 [],
 [(0,[.keep [1,19,20,21],.keepR [1]]),(2,[.keep [1,41,42,43],.keepR [1]])],
 [],[],false⟩
noncomputable def AQ:bc:=⟨[.one .bool],[]⟩
noncomputable def y8:bT:=⟨24,aj Go.Proofs.Tryz.f145,[.tmp 4],
 [],
 [],
 [],[],false⟩
noncomputable def zD:bc:=⟨[.one (.int .i64)],[]⟩
noncomputable def xw:bT:=⟨21,aj Go.Proofs.Tryz.f146,[.tmp 2],
 [],
 [(0,[.keep [0,5,6,7],.keepR []])],
 [],[],false⟩
noncomputable def zo:bc:=⟨[.one .str,.one (.int .i64)],[]⟩
noncomputable def xt:bT:=⟨24,aj Go.Proofs.Tryz.f147,[.tmp 2,.tmp 3],
 [],
 [(0,[.keep [0,4],.own 4 (.int .u8) false,.keepR [2004]])],
 [],[],false⟩
noncomputable def BD:bc:=⟨[.one (.int .i64)],[]⟩
noncomputable def yX:bT:=⟨6,aj Go.Proofs.Tryz.f148,[.tmp 2],
 [],
 [],
 [],[],false⟩
noncomputable def y1:bc:=⟨[.one (.int .i64)],[]⟩
noncomputable def vt:bT:=⟨18,aj Go.Proofs.Tryz.f149,[.tmp 2],
 [],
 [(0,[.keep [0,3],.keepR []])],
 [],[],false⟩
noncomputable def wM:bc:=⟨[.one .str],[]⟩
noncomputable def tQ:bT:=⟨45,aj Go.Proofs.Tryz.f150,[.tmp 4],
 [],
 [(0,[.keep [1,5,18,19,20],.own 5 .bool false,.keepR [2005]]),(2,[.keep [1,5,6,7,18,19,20,25,26],.own 5 .bool false,.keepR [2005]])],
 [],[],false⟩
noncomputable def BG:bc:=⟨[.one (.int .i64),.one (.own .str false)],[(0,[.str,.bool])]⟩
noncomputable def yQ:bT:=⟨65,aj Go.Proofs.Tryz.f152,[.tmp 4,.tmp 5],
 [],
 [],
 [],[],false⟩
noncomputable def Bt:bc:=⟨[.one .bool],[]⟩
noncomputable def y4:bT:=⟨9,aj Go.Proofs.Tryz.f155,[.tmp 2],
 [],
 [],
 [],[],false⟩
noncomputable def BC:bc:=⟨[.one .str],[(0,[.str,(.int .i64),(.own (.int .i64) false),.bool])]⟩
noncomputable def zx:bT:=⟨38,aj Go.Proofs.Tryz.f156,[.tmp 4],
 [],
 [],
 [],[],false⟩
noncomputable def Bc:bc:=⟨[.one (.own (.int .i64) false)],[]⟩
noncomputable def zq:bT:=⟨48,aj Go.Proofs.Tryz.f157,[.tmp 4],
 [],
 [(0,[.keep [7,8],.own 7 (.int .i64) false,.keepR [2007]])],
 [(3,[.keep [0,1],.keepR []]),(6,[.keep [0,6],.keepR []])],[],false⟩
noncomputable def B0:bc:=⟨[.one .bool],[]⟩
noncomputable def zC:bT:=⟨14,aj Go.Proofs.Tryz.f158,[.tmp 4],
 [],
 [],
 [],[],false⟩
noncomputable def BJ:bc:=⟨[.one .str],[]⟩
noncomputable def zB:bc:=⟨[.one (.own (.int .i64) false)],[]⟩
noncomputable def wt:bT:=⟨32,aj Go.Proofs.Tryz.f172,[.tmp 4],
 [],
 [(0,[.keep [1,5,11,12,13],.own 5 (.int .i64) false,.keepR [2005]])],
 [],[],false⟩
noncomputable def Be:bc:=⟨[.one .bool],[]⟩
noncomputable def y3:bT:=⟨36,aj Go.Proofs.Tryz.f173,[.tmp 4],
 [],
 [],
 [],[],false⟩
noncomputable def Bi:bc:=⟨[.one .bool],[]⟩
noncomputable def yT:bT:=⟨12,aj Go.Proofs.Tryz.f174,[.tmp 3],
 [],
 [],
 [],[],false⟩
noncomputable def A5:bc:=⟨[.one .bool],[]⟩
noncomputable def zh:bT:=⟨9,aj Go.Proofs.Tryz.f175,[.tmp 4],
 [],
 [],
 [],[],false⟩
noncomputable def yZ:bc:=⟨[.one .str],[]⟩
noncomputable def xl:bT:=⟨31,aj Go.Proofs.Tryz.f176,[.tmp 2],
 [],
 [(0,[.keep [3,10,11,12],.own 3 (.int .u8) false,.keepR [2003]])],
 [],[],false⟩
noncomputable def A8:bc:=⟨[.one (.int .i64),.one (.own .str false)],[(0,[.str,.bool])]⟩
noncomputable def y5:bT:=⟨7,aj Go.Proofs.Tryz.f177,[.tmp 2,.tmp 3],
 [],
 [],
 [],[],false⟩
noncomputable def BA:bc:=⟨[.one (.int .u8)],[(0,[.str,.bool])]⟩
noncomputable def zd:bT:=⟨26,aj Go.Proofs.Tryz.f178,[.tmp 2],
 [],
 [],
 [],[],false⟩
noncomputable def Bl:bc:=⟨[.one (.int .i64),.one .str],[(0,[.str,.bool])]⟩
noncomputable def yS:bT:=⟨47,aj Go.Proofs.Tryz.f179,[.tmp 4,.tmp 5],
 [],
 [],
 [],[],false⟩
noncomputable def A9:bc:=⟨[.one .str],[(0,[.str,.bool])]⟩
noncomputable def y0:bT:=⟨42,aj Go.Proofs.Tryz.f180,[.tmp 4],
 [],
 [],
 [],[],false⟩
noncomputable def zw:bc:=⟨[.one (.own .str false)],[(0,[.str,.bool])]⟩
noncomputable def vW:bT:=⟨53,aj Go.Proofs.Tryz.f181,[.tmp 6],
 [],
 [(0,[.keep [0,1,2,7],.own 7 .str false,.keepR [1000,2007]])],
 [],[],false⟩
noncomputable def BF:bc:=⟨[.one (.int .u64),.one (.int .u64)],[]⟩
noncomputable def zk:bT:=⟨30,aj Go.Proofs.Tryz.f187,[.tmp 4,.tmp 5],
 [],
 [],
 [],[],false⟩
noncomputable def zi:bc:=⟨[.one (.int .i64)],[]⟩
noncomputable def xn:bT:=⟨19,aj Go.Proofs.Tryz.f192,[.tmp 4],
 [],
 [(0,[.keep [0,1,7,8],.keepR []])],
 [],[],false⟩
noncomputable def Bj:bc:=⟨[.one .str,.one .str,.one .bool],[]⟩
noncomputable def AP:bc:=⟨[.one (.int .u64),.one (.int .u64)],[]⟩
noncomputable def yP:bT:=⟨51,aj Go.Proofs.Tryz.f198,[.tmp 4,.tmp 5],
 [],
 [],
 [],[],false⟩
noncomputable def CV:List (Nat×fD):=[
 (3,⟨false,1,8,[(.int .i64 0)],some .i64,false,none,0,[],0,[],false,false,false,false⟩),
 (4,⟨false,1,1,[(.bool false)],none,false,none,0,[],0,[],false,true,false,false⟩),
 (5,⟨false,1,1,[(.int .u8 0)],some .u8,false,none,0,[],0,[],false,false,false,false⟩),
 (9,⟨false,1,16,[(.str [])],none,true,none,0,[],0,[],false,false,false,false⟩),
 (23,⟨false,1,24,[.nils],none,false,some .str,9,[(.str [])],16,[],false,false,false,false⟩),
 (30,⟨false,1,24,[.nils],none,false,some .node,58,[(.int .i64 0),(.int .i64 0),(.bool false)],24,[],false,false,false,false⟩),
 (32,⟨true,1,24,[.nils],none,false,none,0,[],0,[(0,1,30)],false,false,false,false⟩),
 (34,⟨false,1,8,[(.int .u64 0)],some .u64,false,none,0,[],0,[],false,false,false,false⟩),
 (40,⟨false,1,24,[.nils],none,false,some (.int .i64),3,[(.int .i64 0)],8,[],false,false,false,false⟩),
 (42,⟨true,3,72,[.nils,.nils,.nils],none,false,none,0,[],0,[(0,1,40),(1,1,40),(2,1,23)],false,false,false,false⟩),
 (55,⟨false,1,24,[.nils],none,false,some (.int .u8),5,[(.int .u8 0)],1,[],false,false,false,false⟩),
 (58,⟨true,3,24,[(.int .i64 0),(.int .i64 0),(.bool false)],none,false,none,0,[],0,[(0,1,3),(1,1,3),(2,1,4)],true,false,false,false⟩),
 (91,⟨true,2,32,[.nilp,.nils],none,false,none,0,[],0,[(0,1,89),(1,1,55)],false,false,true,false⟩),
 (93,⟨false,1,16,[.und],none,false,none,0,[],0,[],false,false,false,true⟩),
 (104,⟨true,2,24,[(.str []),(.bool false)],none,false,none,0,[],0,[(0,1,9),(1,1,4)],true,false,false,false⟩),
 (119,⟨false,1,4,[(.int .u32 0)],some .u32,false,none,0,[],0,[],false,false,false,false⟩),
 (131,⟨false,1,24,[.nils],none,false,some .bool,4,[(.bool false)],1,[],false,false,false,false⟩),
 (148,⟨false,1,8,[(.int .u64 0)],some .u64,false,none,0,[],0,[],false,false,false,false⟩),
 (153,⟨true,4,56,[(.str []),(.int .i64 0),.nils,(.bool false)],none,false,none,0,[],0,[(0,1,9),(1,1,3),(2,1,40),(3,1,4)],false,false,false,false⟩),
 (179,⟨true,2,24,[(.str []),(.bool false)],none,false,none,0,[],0,[(0,1,9),(1,1,4)],true,false,false,false⟩)]
noncomputable def AM:List (Nat×List PK):=[
 (6,[.one (.int .i64),.one (.int .i64)]),
 (20,[.one (.int .i64)]),
 (21,[.agg [(.list (.int .i64)),(.list (.int .i64)),(.list .str)]]),
 (22,[.agg [(.list .node)],.one (.int .i64),.agg [(.list (.int .i64)),(.list (.int .i64)),(.list .str)]]),
 (24,[.agg [(.list .node)],.one (.int .i64),.one .str]),
 (26,[.agg [(.list (.int .i64)),(.list (.int .i64)),(.list .str)],.agg [(.list (.int .i64)),(.list (.int .i64)),(.list .str)]]),
 (28,[]),
 (29,[]),
 (38,[.one (.list .str),.one (.list .str)]),
 (52,[.agg [(.list .node)],.one (.int .i64),.agg [(.list (.int .i64)),(.list (.int .i64)),(.list .str)]]),
 (53,[.agg [(.list .node)],.one (.int .i64)]),
 (54,[.one (.list (.int .i64)),.one (.int .i64)]),
 (55,[.bw 91,.one .str]),
 (56,[.one (.int .i64),.one (.int .i64)]),
 (57,[.one .str]),
 (58,[.one .str]),
 (59,[.br 91 5]),
 (64,[.agg [(.list .node)],.one (.int .i64)]),
 (65,[.one .str]),
 (66,[.rw [.str,.bool]]),
 (67,[.one .str,.one (.int .i64),.one (.int .i64)]),
 (68,[.rw [.str,.bool],.one (.int .i64)]),
 (69,[.one (.int .u64)]),
 (70,[.one (.list (.int .i64)),.one (.int .i64)]),
 (71,[.rw [.str,.bool],.one (.int .i64)]),
 (76,[.one (.list (.int .i64)),.one (.list (.int .i64))]),
 (78,[.agg [(.list .node)]]),
 (89,[.one (.int .i64)]),
 (97,[.one (.list (.int .i64)),.one (.int .i64)]),
 (98,[]),
 (99,[.agg [(.list .node)],.one (.int .i64),.one .str]),
 (100,[.agg [(.list .node)],.one (.int .i64)]),
 (101,[.ro [(.list .node)],.one (.int .i64)]),
 (102,[.one (.list (.int .i64)),.one (.int .i64)]),
 (104,[.one .str]),
 (105,[.one .str]),
 (111,[.one (.int .i64)]),
 (112,[.one .str,.one (.int .i64),.one (.int .i64)]),
 (113,[.one .str,.one (.int .i64)]),
 (114,[.rw [.str,(.int .i64),(.own (.int .i64) false),.bool],.one (.int .i64),.one (.int .i64)]),
 (115,[.rw [.str,(.int .i64),(.own (.int .i64) false),.bool],.one (.int .i64),.one (.int .i64)]),
 (117,[.one (.int .u64)]),
 (118,[.one (.int .i64)]),
 (119,[.one .bool]),
 (120,[.one .str]),
 (121,[.rw [.str,.bool]]),
 (128,[.one (.int .i64),.one (.int .i64),.one (.int .i64)]),
 (129,[.agg [(.list .node)],.one (.int .i64)]),
 (141,[.agg [(.list .node)],.one (.int .i64)]),
 (142,[.one (.int .i64),.one .str,.ro [(.list .node)]]),
 (143,[.one (.list (.int .i64)),.one (.list .str),.fn]),
 (144,[.agg [(.list .node)]]),
 (145,[.one (.list (.int .i64)),.one (.int .i64)]),
 (146,[.one (.list (.int .i64))]),
 (147,[.one (.int .i64)]),
 (148,[.one (.int .i64)]),
 (149,[.one (.list (.int .i64))]),
 (150,[.one (.list (.int .i64)),.one (.int .i64)]),
 (152,[.rw [.str,.bool],.one (.int .i64)]),
 (155,[.one (.int .i64)]),
 (156,[.rw [.str,(.int .i64),(.own (.int .i64) false),.bool],.one (.int .i64)]),
 (157,[.one (.list (.int .i64)),.one (.int .i64)]),
 (158,[.one .str,.one (.int .i64)]),
 (159,[.one (.int .i64)]),
 (172,[.ro [(.list .node)],.one (.int .i64)]),
 (173,[.ro [(.list .node)],.one (.int .i64)]),
 (174,[.one (.int .i64),.ro [(.int .i64)]]),
 (175,[.one (.list (.int .i64)),.fn]),
 (176,[.one (.list .bool)]),
 (177,[.rw [.str,.bool]]),
 (178,[.rw [.str,.bool]]),
 (179,[.rw [.str,.bool],.one .str]),
 (180,[.rw [.str,.bool],.one (.int .i64)]),
 (181,[.rw [.str,.bool],.one (.int .u8),.one (.int .i64)]),
 (187,[.one (.int .u64),.one (.int .u64)]),
 (192,[.one (.list (.int .i64)),.fn]),
 (193,[.one .str,.one .str]),
 (198,[.one (.int .u64),.one (.int .u64)])]
noncomputable def C3:List (Nat×bc):=[(6,CY),(20,Ce),(21,CN),(22,zK),(24,B9),(26,CU),(28,CP),(29,CQ),(38,CB),(52,AX),(53,AD),(54,Cj),(56,CL),(57,Cc),(58,zP),(64,CC),(65,B7),(66,Cd),(67,CS),(68,CH),(69,CM),(70,Bq),(71,B6),(76,CE),(78,Cf),(89,Cm),(97,AG),(98,CO),(99,Bo),(100,BQ),(101,zp),(102,zv),(104,BW),(105,BX),(111,B1),(112,A1),(113,A0),(114,BI),(115,BL),(117,AU),(118,AW),(119,BZ),(120,BH),(121,AK),(128,AL),(129,Bz),(141,AS),(142,AO),(143,A3),(144,wW),(145,AQ),(146,zD),(147,zo),(148,BD),(149,y1),(150,wM),(152,BG),(155,Bt),(156,BC),(157,Bc),(158,B0),(159,BJ),(172,zB),(173,Be),(174,Bi),(175,A5),(176,yZ),(177,A8),(178,BA),(179,Bl),(180,A9),(181,zw),(187,BF),(192,zi),(193,Bj),(198,AP)]
noncomputable def CW:List (Nat×bT):=[(6,Cb),(20,Bv),(21,BV),(22,xN),(24,Ax),(26,AN),(28,AE),(29,Bw),(38,BB),(52,zU),(53,zN),(54,A2),(56,Bd),(57,By),(58,yM),(64,BP),(65,Bm),(66,BM),(67,AZ),(68,Br),(69,BU),(70,zE),(71,AC),(76,AB),(78,AA),(89,A4),(97,zY),(98,Bn),(99,Ag),(100,ze),(101,wY),(102,vw),(104,zf),(111,zm),(112,zt),(113,zy),(114,zz),(115,yW),(117,zg),(118,y6),(119,zb),(120,zA),(121,zn),(128,zj),(129,yY),(141,zl),(142,za),(143,yV),(144,tO),(145,y8),(146,xw),(147,xt),(148,yX),(149,vt),(150,tQ),(152,yQ),(155,y4),(156,zx),(157,zq),(158,zC),(172,wt),(173,y3),(174,yT),(175,zh),(176,xl),(177,y5),(178,zd),(179,yS),(180,y0),(181,vW),(187,zk),(192,xn),(198,yP)]
noncomputable def xz (f:FuncId):List PK:=match look f AM with|some l=>l|none=>[]
noncomputable def mf (f:FuncId):bc:=match look f C3 with|some s=>s|none=>⟨[],[]⟩
noncomputable def wJ (f:FuncId)(args:List jg):Option (mf f).den:=
 if h:f=105 then h.symm ▸ (show Option (mf 105).den from ny args) else
 if h:f=159 then h.symm ▸ (show Option (mf 159).den from nr args) else
 if h:f=193 then h.symm ▸ (show Option (mf 193).den from qi args) else
 none
noncomputable def E (bar:aX):db:=⟨fun f=>look f CW,fun t=>look t CV,xz,mf,wJ,bar⟩
end Go.Proofs.YtjkokaockhecnaaGreatDoorA
