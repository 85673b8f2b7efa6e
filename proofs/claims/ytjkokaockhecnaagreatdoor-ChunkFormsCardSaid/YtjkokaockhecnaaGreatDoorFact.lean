/- The program is what the machine is told of it, so that what the machine answers of a call is what the program answers; no condition. -/
import Derived.Test.YtjkokaockhecnaaGreatDoorExt3
import Derived.Test.YtjkokaockhecnaaGreatDoorBld4
import Derived.Test.YtjkokaockhecnaaGreatDoorShelf
import Derived.Test.YtjkokaockhecnaaGreatDoorEnv
namespace Go.Proofs.YtjkokaockhecnaaGreatDoorA
open Go
set_option linter.unusedVariables false
def IW (t:El):Nat:=
 match t with
 |.int .i64=>3
 |.bool=>4
 |.int .u8=>5
 |.str=>9
 |.list .str=>23
 |.arr=>27
 |.node=>58
 |_=>0
def Tabs (w:World):Prop:=SentIs Go.Proofs.Tryz.prog w "strconv.ErrSyntax" ∧SentIs Go.Proofs.Tryz.prog w "strconv.ErrRange" ∧Lib.TabIs Go.Proofs.Tryz.prog w "internal/strconv.uint64pow10" .u64 Lib.pow10Tab∧IntIs Go.Proofs.Tryz.prog w "internal/bytealg.MaxLen"
theorem FW:(Go.Proofs.Tryz.prog).globalNamed "strconv.ErrSyntax" =some 0:=by kernel_rfl
theorem FV:(Go.Proofs.Tryz.prog).globalNamed "strconv.ErrRange" =some 1:=by kernel_rfl
theorem Gu:(Go.Proofs.Tryz.prog).globalNamed "internal/strconv.uint64pow10" =some 2:=by kernel_rfl
theorem BU:(Go.Proofs.Tryz.prog).globalNamed "internal/bytealg.MaxLen" =some 3:=by kernel_rfl
def aa:bP:=⟨IW,[0,1,2,3],Tabs,fun w w' q h=>⟨qM FW (q 0 (by decide)) h.1,qM FV (q 1 (by decide)) h.2.1,xH Gu (q 2 (by decide)) h.2.2.1,xk BU (q 3 (by decide)) h.2.2.2⟩⟩
theorem tabs_ok {W:World}(h:Tabs W):jh aa W ⟨fun _ _=>.imm,fun _ _=>.slice none 0 0,fun _=>(0,0)⟩:=by
 refine ⟨h,fun b hb=>⟨?_,fun _=>rfl⟩⟩
 have hb':b∈[0,1,2,3]:=hb
 simp only [List.mem_cons,List.not_mem_nil,or_false] at hb'
 rcases hb' with e|e|e|e
 ·rw [e];exact y1 FW h.1
 ·rw [e];exact y1 FV h.2.1
 ·rw [e];exact GK Gu h.2.2.1
 ·rw [e];exact GN BU h.2.2.2
theorem G1:yP Go.Proofs.Tryz.prog aa Ko=true:=by kernel_rfl
theorem Dv:ba Go.Proofs.Tryz.prog 12 Jc:=⟨Go.Proofs.Tryz.f12,Go.Proofs.Tryz.func12,rfl,rfl,rfl,by kernel_rfl⟩
theorem Fb:ba Go.Proofs.Tryz.prog 17 Hf:=⟨Go.Proofs.Tryz.f17,Go.Proofs.Tryz.func17,rfl,rfl,rfl,by kernel_rfl⟩
theorem D6:ba Go.Proofs.Tryz.prog 20 IS:=⟨Go.Proofs.Tryz.f20,Go.Proofs.Tryz.func20,rfl,rfl,rfl,by kernel_rfl⟩
theorem E5:ba Go.Proofs.Tryz.prog 22 ED:=⟨Go.Proofs.Tryz.f22,Go.Proofs.Tryz.func22,rfl,rfl,rfl,by kernel_rfl⟩
theorem Dx:ba Go.Proofs.Tryz.prog 23 Hk:=⟨Go.Proofs.Tryz.f23,Go.Proofs.Tryz.func23,rfl,rfl,rfl,by kernel_rfl⟩
theorem D9:ba Go.Proofs.Tryz.prog 24 GT:=⟨Go.Proofs.Tryz.f24,Go.Proofs.Tryz.func24,rfl,rfl,rfl,by kernel_rfl⟩
theorem EP:ba Go.Proofs.Tryz.prog 26 Jv:=⟨Go.Proofs.Tryz.f26,Go.Proofs.Tryz.func26,rfl,rfl,rfl,by kernel_rfl⟩
theorem ES:ba Go.Proofs.Tryz.prog 30 DN:=⟨Go.Proofs.Tryz.f30,Go.Proofs.Tryz.func30,rfl,rfl,rfl,by kernel_rfl⟩
theorem DK:ba Go.Proofs.Tryz.prog 31 I7:=⟨Go.Proofs.Tryz.f31,Go.Proofs.Tryz.func31,rfl,rfl,rfl,by kernel_rfl⟩
theorem Ec:ba Go.Proofs.Tryz.prog 32 Dw:=⟨Go.Proofs.Tryz.f32,Go.Proofs.Tryz.func32,rfl,rfl,rfl,by kernel_rfl⟩
theorem EU:ba Go.Proofs.Tryz.prog 34 G7:=⟨Go.Proofs.Tryz.f34,Go.Proofs.Tryz.func34,rfl,rfl,rfl,by kernel_rfl⟩
theorem EX:ba Go.Proofs.Tryz.prog 36 Hh:=⟨Go.Proofs.Tryz.f36,Go.Proofs.Tryz.func36,rfl,rfl,rfl,by kernel_rfl⟩
theorem DF:ba Go.Proofs.Tryz.prog 38 HA:=⟨Go.Proofs.Tryz.f38,Go.Proofs.Tryz.func38,rfl,rfl,rfl,by kernel_rfl⟩
theorem DG:ba Go.Proofs.Tryz.prog 41 Jp:=⟨Go.Proofs.Tryz.f41,Go.Proofs.Tryz.func41,rfl,rfl,rfl,by kernel_rfl⟩
theorem Fh:ba Go.Proofs.Tryz.prog 46 Hw:=⟨Go.Proofs.Tryz.f46,Go.Proofs.Tryz.func46,rfl,rfl,rfl,by kernel_rfl⟩
theorem Du:ba Go.Proofs.Tryz.prog 47 IL:=⟨Go.Proofs.Tryz.f47,Go.Proofs.Tryz.func47,rfl,rfl,rfl,by kernel_rfl⟩
theorem Dl:ba Go.Proofs.Tryz.prog 48 GZ:=⟨Go.Proofs.Tryz.f48,Go.Proofs.Tryz.func48,rfl,rfl,rfl,by kernel_rfl⟩
theorem E2:ba Go.Proofs.Tryz.prog 49 zu:=⟨Go.Proofs.Tryz.f49,Go.Proofs.Tryz.func49,rfl,rfl,rfl,by kernel_rfl⟩
theorem Eu:ba Go.Proofs.Tryz.prog 52 Hn:=⟨Go.Proofs.Tryz.f52,Go.Proofs.Tryz.func52,rfl,rfl,rfl,by kernel_rfl⟩
theorem Dm:ba Go.Proofs.Tryz.prog 53 GO:=⟨Go.Proofs.Tryz.f53,Go.Proofs.Tryz.func53,rfl,rfl,rfl,by kernel_rfl⟩
theorem EA:ba Go.Proofs.Tryz.prog 54 Ja:=⟨Go.Proofs.Tryz.f54,Go.Proofs.Tryz.func54,rfl,rfl,rfl,by kernel_rfl⟩
theorem EQ:ba Go.Proofs.Tryz.prog 56 Ii:=⟨Go.Proofs.Tryz.f56,Go.Proofs.Tryz.func56,rfl,rfl,rfl,by kernel_rfl⟩
theorem DY:ba Go.Proofs.Tryz.prog 57 H8:=⟨Go.Proofs.Tryz.f57,Go.Proofs.Tryz.func57,rfl,rfl,rfl,by kernel_rfl⟩
theorem DC:ba Go.Proofs.Tryz.prog 58 E3:=⟨Go.Proofs.Tryz.f58,Go.Proofs.Tryz.func58,rfl,rfl,rfl,by kernel_rfl⟩
theorem D5:ba Go.Proofs.Tryz.prog 60 D1:=⟨Go.Proofs.Tryz.f60,Go.Proofs.Tryz.func60,rfl,rfl,rfl,by kernel_rfl⟩
theorem Ff:ba Go.Proofs.Tryz.prog 61 CN:=⟨Go.Proofs.Tryz.f61,Go.Proofs.Tryz.func61,rfl,rfl,rfl,by kernel_rfl⟩
theorem Dt:ba Go.Proofs.Tryz.prog 62 Is:=⟨Go.Proofs.Tryz.f62,Go.Proofs.Tryz.func62,rfl,rfl,rfl,by kernel_rfl⟩
theorem Ef:ba Go.Proofs.Tryz.prog 63 H6:=⟨Go.Proofs.Tryz.f63,Go.Proofs.Tryz.func63,rfl,rfl,rfl,by kernel_rfl⟩
theorem Ei:ba Go.Proofs.Tryz.prog 64 Jt:=⟨Go.Proofs.Tryz.f64,Go.Proofs.Tryz.func64,rfl,rfl,rfl,by kernel_rfl⟩
theorem Dz:ba Go.Proofs.Tryz.prog 65 Ht:=⟨Go.Proofs.Tryz.f65,Go.Proofs.Tryz.func65,rfl,rfl,rfl,by kernel_rfl⟩
theorem DU:ba Go.Proofs.Tryz.prog 66 IG:=⟨Go.Proofs.Tryz.f66,Go.Proofs.Tryz.func66,rfl,rfl,rfl,by kernel_rfl⟩
theorem Ep:ba Go.Proofs.Tryz.prog 67 E7:=⟨Go.Proofs.Tryz.f67,Go.Proofs.Tryz.func67,rfl,rfl,rfl,by kernel_rfl⟩
theorem DL:ba Go.Proofs.Tryz.prog 68 H2:=⟨Go.Proofs.Tryz.f68,Go.Proofs.Tryz.func68,rfl,rfl,rfl,by kernel_rfl⟩
theorem E1:ba Go.Proofs.Tryz.prog 69 Jg:=⟨Go.Proofs.Tryz.f69,Go.Proofs.Tryz.func69,rfl,rfl,rfl,by kernel_rfl⟩
theorem Dp:ba Go.Proofs.Tryz.prog 70 GX:=⟨Go.Proofs.Tryz.f70,Go.Proofs.Tryz.func70,rfl,rfl,rfl,by kernel_rfl⟩
theorem EC:ba Go.Proofs.Tryz.prog 71 IZ:=⟨Go.Proofs.Tryz.f71,Go.Proofs.Tryz.func71,rfl,rfl,rfl,by kernel_rfl⟩
theorem Eo:ba Go.Proofs.Tryz.prog 72 Js:=⟨Go.Proofs.Tryz.f72,Go.Proofs.Tryz.func72,rfl,rfl,rfl,by kernel_rfl⟩
theorem Dy:ba Go.Proofs.Tryz.prog 76 Hy:=⟨Go.Proofs.Tryz.f76,Go.Proofs.Tryz.func76,rfl,rfl,rfl,by kernel_rfl⟩
theorem DT:ba Go.Proofs.Tryz.prog 78 GU:=⟨Go.Proofs.Tryz.f78,Go.Proofs.Tryz.func78,rfl,rfl,rfl,by kernel_rfl⟩
theorem EI:ba Go.Proofs.Tryz.prog 80 Ee:=⟨Go.Proofs.Tryz.f80,Go.Proofs.Tryz.func80,rfl,rfl,rfl,by kernel_rfl⟩
theorem EZ:ba Go.Proofs.Tryz.prog 81 Iy:=⟨Go.Proofs.Tryz.f81,Go.Proofs.Tryz.func81,rfl,rfl,rfl,by kernel_rfl⟩
theorem Do:ba Go.Proofs.Tryz.prog 86 Fg:=⟨Go.Proofs.Tryz.f86,Go.Proofs.Tryz.func86,rfl,rfl,rfl,by kernel_rfl⟩
theorem D3:ba Go.Proofs.Tryz.prog 87 DI:=⟨Go.Proofs.Tryz.f87,Go.Proofs.Tryz.func87,rfl,rfl,rfl,by kernel_rfl⟩
theorem DJ:ba Go.Proofs.Tryz.prog 88 Ip:=⟨Go.Proofs.Tryz.f88,Go.Proofs.Tryz.func88,rfl,rfl,rfl,by kernel_rfl⟩
theorem Et:ba Go.Proofs.Tryz.prog 89 Ju:=⟨Go.Proofs.Tryz.f89,Go.Proofs.Tryz.func89,rfl,rfl,rfl,by kernel_rfl⟩
theorem D7:ba Go.Proofs.Tryz.prog 90 He:=⟨Go.Proofs.Tryz.f90,Go.Proofs.Tryz.func90,rfl,rfl,rfl,by kernel_rfl⟩
theorem DX:ba Go.Proofs.Tryz.prog 91 GI:=⟨Go.Proofs.Tryz.f91,Go.Proofs.Tryz.func91,rfl,rfl,rfl,by kernel_rfl⟩
theorem EN:ba Go.Proofs.Tryz.prog 92 H4:=⟨Go.Proofs.Tryz.f92,Go.Proofs.Tryz.func92,rfl,rfl,rfl,by kernel_rfl⟩
theorem D4:ba Go.Proofs.Tryz.prog 93 If:=⟨Go.Proofs.Tryz.f93,Go.Proofs.Tryz.func93,rfl,rfl,rfl,by kernel_rfl⟩
theorem DO:ba Go.Proofs.Tryz.prog 94 GQ:=⟨Go.Proofs.Tryz.f94,Go.Proofs.Tryz.func94,rfl,rfl,rfl,by kernel_rfl⟩
theorem EV:ba Go.Proofs.Tryz.prog 97 GV:=⟨Go.Proofs.Tryz.f97,Go.Proofs.Tryz.func97,rfl,rfl,rfl,by kernel_rfl⟩
theorem ET:ba Go.Proofs.Tryz.prog 98 I5:=⟨Go.Proofs.Tryz.f98,Go.Proofs.Tryz.func98,rfl,rfl,rfl,by kernel_rfl⟩
theorem ER:ba Go.Proofs.Tryz.prog 99 GR:=⟨Go.Proofs.Tryz.f99,Go.Proofs.Tryz.func99,rfl,rfl,rfl,by kernel_rfl⟩
theorem BW:ba Go.Proofs.Tryz.prog 100 Gg:=⟨Go.Proofs.Tryz.f100,Go.Proofs.Tryz.func100,rfl,rfl,rfl,by kernel_rfl⟩
theorem A9:ba Go.Proofs.Tryz.prog 101 CO:=⟨Go.Proofs.Tryz.f101,Go.Proofs.Tryz.func101,rfl,rfl,rfl,by kernel_rfl⟩
theorem Dh:ba Go.Proofs.Tryz.prog 102 Ax:=⟨Go.Proofs.Tryz.f102,Go.Proofs.Tryz.func102,rfl,rfl,rfl,by kernel_rfl⟩
theorem Di:ba Go.Proofs.Tryz.prog 104 Fv:=⟨Go.Proofs.Tryz.f104,Go.Proofs.Tryz.func104,rfl,rfl,rfl,by kernel_rfl⟩
theorem A6:ba Go.Proofs.Tryz.prog 106 Bi:=⟨Go.Proofs.Tryz.f106,Go.Proofs.Tryz.func106,rfl,rfl,rfl,by kernel_rfl⟩
theorem AG:ba Go.Proofs.Tryz.prog 107 Ba:=⟨Go.Proofs.Tryz.f107,Go.Proofs.Tryz.func107,rfl,rfl,rfl,by kernel_rfl⟩
theorem AU:ba Go.Proofs.Tryz.prog 108 FB:=⟨Go.Proofs.Tryz.f108,Go.Proofs.Tryz.func108,rfl,rfl,rfl,by kernel_rfl⟩
theorem AB:ba Go.Proofs.Tryz.prog 109 yX:=⟨Go.Proofs.Tryz.f109,Go.Proofs.Tryz.func109,rfl,rfl,rfl,by kernel_rfl⟩
theorem Br:ba Go.Proofs.Tryz.prog 110 Gk:=⟨Go.Proofs.Tryz.f110,Go.Proofs.Tryz.func110,rfl,rfl,rfl,by kernel_rfl⟩
theorem AQ:ba Go.Proofs.Tryz.prog 111 Gn:=⟨Go.Proofs.Tryz.f111,Go.Proofs.Tryz.func111,rfl,rfl,rfl,by kernel_rfl⟩
theorem Cj:ba Go.Proofs.Tryz.prog 112 FD:=⟨Go.Proofs.Tryz.f112,Go.Proofs.Tryz.func112,rfl,rfl,rfl,by kernel_rfl⟩
theorem AS:ba Go.Proofs.Tryz.prog 113 Bj:=⟨Go.Proofs.Tryz.f113,Go.Proofs.Tryz.func113,rfl,rfl,rfl,by kernel_rfl⟩
theorem Bm:ba Go.Proofs.Tryz.prog 114 F6:=⟨Go.Proofs.Tryz.f114,Go.Proofs.Tryz.func114,rfl,rfl,rfl,by kernel_rfl⟩
theorem Av:ba Go.Proofs.Tryz.prog 115 yV:=⟨Go.Proofs.Tryz.f115,Go.Proofs.Tryz.func115,rfl,rfl,rfl,by kernel_rfl⟩
theorem Cb:ba Go.Proofs.Tryz.prog 117 FM:=⟨Go.Proofs.Tryz.f117,Go.Proofs.Tryz.func117,rfl,rfl,rfl,by kernel_rfl⟩
theorem CU:ba Go.Proofs.Tryz.prog 118 Ft:=⟨Go.Proofs.Tryz.f118,Go.Proofs.Tryz.func118,rfl,rfl,rfl,by kernel_rfl⟩
theorem B0:ba Go.Proofs.Tryz.prog 119 FO:=⟨Go.Proofs.Tryz.f119,Go.Proofs.Tryz.func119,rfl,rfl,rfl,by kernel_rfl⟩
theorem BV:ba Go.Proofs.Tryz.prog 120 F2:=⟨Go.Proofs.Tryz.f120,Go.Proofs.Tryz.func120,rfl,rfl,rfl,by kernel_rfl⟩
theorem C2:ba Go.Proofs.Tryz.prog 121 GE:=⟨Go.Proofs.Tryz.f121,Go.Proofs.Tryz.func121,rfl,rfl,rfl,by kernel_rfl⟩
theorem BY:ba Go.Proofs.Tryz.prog 123 F4:=⟨Go.Proofs.Tryz.f123,Go.Proofs.Tryz.func123,rfl,rfl,rfl,by kernel_rfl⟩
theorem Bq:ba Go.Proofs.Tryz.prog 128 FN:=⟨Go.Proofs.Tryz.f128,Go.Proofs.Tryz.func128,rfl,rfl,rfl,by kernel_rfl⟩
theorem CV:ba Go.Proofs.Tryz.prog 129 A4:=⟨Go.Proofs.Tryz.f129,Go.Proofs.Tryz.func129,rfl,rfl,rfl,by kernel_rfl⟩
theorem AD:ba Go.Proofs.Tryz.prog 133 CP:=⟨Go.Proofs.Tryz.f133,Go.Proofs.Tryz.func133,rfl,rfl,rfl,by kernel_rfl⟩
theorem Cm:ba Go.Proofs.Tryz.prog 134 B7:=⟨Go.Proofs.Tryz.f134,Go.Proofs.Tryz.func134,rfl,rfl,rfl,by kernel_rfl⟩
theorem AE:ba Go.Proofs.Tryz.prog 135 Gw:=⟨Go.Proofs.Tryz.f135,Go.Proofs.Tryz.func135,rfl,rfl,rfl,by kernel_rfl⟩
theorem A3:ba Go.Proofs.Tryz.prog 141 Fq:=⟨Go.Proofs.Tryz.f141,Go.Proofs.Tryz.func141,rfl,rfl,rfl,by kernel_rfl⟩
theorem Ar:ba Go.Proofs.Tryz.prog 142 FK:=⟨Go.Proofs.Tryz.f142,Go.Proofs.Tryz.func142,rfl,rfl,rfl,by kernel_rfl⟩
theorem AK:ba Go.Proofs.Tryz.prog 143 FQ:=⟨Go.Proofs.Tryz.f143,Go.Proofs.Tryz.func143,rfl,rfl,rfl,by kernel_rfl⟩
theorem Ap:ba Go.Proofs.Tryz.prog 144 yy:=⟨Go.Proofs.Tryz.f144,Go.Proofs.Tryz.func144,rfl,rfl,rfl,by kernel_rfl⟩
theorem AN:ba Go.Proofs.Tryz.prog 145 Fj:=⟨Go.Proofs.Tryz.f145,Go.Proofs.Tryz.func145,rfl,rfl,rfl,by kernel_rfl⟩
theorem AL:ba Go.Proofs.Tryz.prog 146 BS:=⟨Go.Proofs.Tryz.f146,Go.Proofs.Tryz.func146,rfl,rfl,rfl,by kernel_rfl⟩
theorem AO:ba Go.Proofs.Tryz.prog 147 Db:=⟨Go.Proofs.Tryz.f147,Go.Proofs.Tryz.func147,rfl,rfl,rfl,by kernel_rfl⟩
theorem CQ:ba Go.Proofs.Tryz.prog 148 FA:=⟨Go.Proofs.Tryz.f148,Go.Proofs.Tryz.func148,rfl,rfl,rfl,by kernel_rfl⟩
theorem Bn:ba Go.Proofs.Tryz.prog 149 Bh:=⟨Go.Proofs.Tryz.f149,Go.Proofs.Tryz.func149,rfl,rfl,rfl,by kernel_rfl⟩
theorem C5:ba Go.Proofs.Tryz.prog 150 yB:=⟨Go.Proofs.Tryz.f150,Go.Proofs.Tryz.func150,rfl,rfl,rfl,by kernel_rfl⟩
theorem AZ:ba Go.Proofs.Tryz.prog 152 F8:=⟨Go.Proofs.Tryz.f152,Go.Proofs.Tryz.func152,rfl,rfl,rfl,by kernel_rfl⟩
theorem CZ:ba Go.Proofs.Tryz.prog 155 Gp:=⟨Go.Proofs.Tryz.f155,Go.Proofs.Tryz.func155,rfl,rfl,rfl,by kernel_rfl⟩
theorem CE:ba Go.Proofs.Tryz.prog 156 FX:=⟨Go.Proofs.Tryz.f156,Go.Proofs.Tryz.func156,rfl,rfl,rfl,by kernel_rfl⟩
theorem Bc:ba Go.Proofs.Tryz.prog 157 vZ:=⟨Go.Proofs.Tryz.f157,Go.Proofs.Tryz.func157,rfl,rfl,rfl,by kernel_rfl⟩
theorem Bd:ba Go.Proofs.Tryz.prog 158 Gf:=⟨Go.Proofs.Tryz.f158,Go.Proofs.Tryz.func158,rfl,rfl,rfl,by kernel_rfl⟩
theorem Aq:ba Go.Proofs.Tryz.prog 172 BI:=⟨Go.Proofs.Tryz.f172,Go.Proofs.Tryz.func172,rfl,rfl,rfl,by kernel_rfl⟩
theorem BE:ba Go.Proofs.Tryz.prog 173 GF:=⟨Go.Proofs.Tryz.f173,Go.Proofs.Tryz.func173,rfl,rfl,rfl,by kernel_rfl⟩
theorem BF:ba Go.Proofs.Tryz.prog 174 Gz:=⟨Go.Proofs.Tryz.f174,Go.Proofs.Tryz.func174,rfl,rfl,rfl,by kernel_rfl⟩
theorem AP:ba Go.Proofs.Tryz.prog 175 FG:=⟨Go.Proofs.Tryz.f175,Go.Proofs.Tryz.func175,rfl,rfl,rfl,by kernel_rfl⟩
theorem B1:ba Go.Proofs.Tryz.prog 176 Bt:=⟨Go.Proofs.Tryz.f176,Go.Proofs.Tryz.func176,rfl,rfl,rfl,by kernel_rfl⟩
theorem Df:ba Go.Proofs.Tryz.prog 177 F9:=⟨Go.Proofs.Tryz.f177,Go.Proofs.Tryz.func177,rfl,rfl,rfl,by kernel_rfl⟩
theorem A0:ba Go.Proofs.Tryz.prog 178 Fo:=⟨Go.Proofs.Tryz.f178,Go.Proofs.Tryz.func178,rfl,rfl,rfl,by kernel_rfl⟩
theorem C6:ba Go.Proofs.Tryz.prog 179 F5:=⟨Go.Proofs.Tryz.f179,Go.Proofs.Tryz.func179,rfl,rfl,rfl,by kernel_rfl⟩
theorem BQ:ba Go.Proofs.Tryz.prog 180 Gq:=⟨Go.Proofs.Tryz.f180,Go.Proofs.Tryz.func180,rfl,rfl,rfl,by kernel_rfl⟩
theorem Ak:ba Go.Proofs.Tryz.prog 181 BC:=⟨Go.Proofs.Tryz.f181,Go.Proofs.Tryz.func181,rfl,rfl,rfl,by kernel_rfl⟩
theorem B8:ba Go.Proofs.Tryz.prog 187 GB:=⟨Go.Proofs.Tryz.f187,Go.Proofs.Tryz.func187,rfl,rfl,rfl,by kernel_rfl⟩
theorem Cf:ba Go.Proofs.Tryz.prog 192 Bo:=⟨Go.Proofs.Tryz.f192,Go.Proofs.Tryz.func192,rfl,rfl,rfl,by kernel_rfl⟩
theorem BG:ba Go.Proofs.Tryz.prog 198 Ge:=⟨Go.Proofs.Tryz.f198,Go.Proofs.Tryz.func198,rfl,rfl,rfl,by kernel_rfl⟩
theorem G0:Bw (ba Go.Proofs.Tryz.prog) Kp:=⟨Dv,Fb,D6,E5,Dx,D9,EP,ES,DK,Ec,EU,EX,DF,DG,Fh,Du,Dl,E2,Eu,Dm,EA,EQ,DY,DC,D5,Ff,Dt,Ef,Ei,Dz,DU,Ep,DL,E1,Dp,EC,Eo,Dy,DT,EI,EZ,Do,D3,DJ,Et,D7,DX,EN,D4,DO,EV,ET,ER,BW,A9,Dh,Di,A6,AG,AU,AB,Br,AQ,Cj,AS,Bm,Av,Cb,CU,B0,BV,C2,BY,Bq,CV,AD,Cm,AE,A3,Ar,AK,Ap,AN,AL,AO,CQ,Bn,C5,AZ,CZ,CE,Bc,Bd,Aq,BE,BF,AP,B1,Df,A0,C6,BQ,Ak,B8,Cf,BG,trivial⟩
theorem mixed:(Go.Proofs.Tryz.prog).follows .mixedOrders=true:=by kernel_rfl
theorem HH (f:FuncId)(args:List lM)(r:(pR f).den)(h:BB f args=some r):gI Go.Proofs.Tryz.prog aa pR f args r:=by
 unfold BB at h
 by_cases e105:f=105
 ·subst e105
  rw [dif_pos rfl] at h
  exact EO (by kernel_rfl) ⟨Go.Proofs.Tryz.f105,Go.Proofs.Tryz.func105,rfl,by kernel_rfl⟩ Go.Proofs.Tryz.strconv_Atoi_ok Go.Proofs.Tryz.strconv_Atoi_syntax_var Go.Proofs.Tryz.strconv_Atoi_range_var (fun _ h=>h.1) (fun _ h=>h.2.1) h HEq.rfl
 rw [dif_neg e105] at h
 by_cases e159:f=159
 ·subst e159
  rw [dif_pos rfl] at h
  exact EG (by kernel_rfl) ⟨Go.Proofs.Tryz.f159,Go.Proofs.Tryz.func159,rfl,by kernel_rfl⟩ Go.Proofs.Tryz.strconv_Itoa (fun _ h=>h.2.2.1) h HEq.rfl
 rw [dif_neg e159] at h
 by_cases e193:f=193
 ·subst e193
  rw [dif_pos rfl] at h
  exact cut_ok (by kernel_rfl) ⟨Go.Proofs.Tryz.f193,Go.Proofs.Tryz.func193,rfl,by kernel_rfl⟩ Go.Proofs.Tryz.strings_Cut (fun _ h=>B2 BU h.2.2.2) h HEq.rfl
 rw [dif_neg e193] at h
 cases h
theorem Hj (f:Nat):(E aG).pks f=match look f I8 with|some l=>l|none=>[]:=by
 show Dc f=_
 unfold Dc
 cases look f I8<;>rfl
theorem Hv:sP 55 59 91 5 I8=true:=by kernel_rfl
theorem BM:BA Go.Proofs.Tryz.prog 55 91 (aa (.int .u8)):=A7 Go.Proofs.Tryz.laysB166 Go.Proofs.Tryz.Builder_Extra_B ⟨Go.Proofs.Tryz.f55,Go.Proofs.Tryz.func55,rfl,by kernel_rfl⟩
theorem zJ:C7 Go.Proofs.Tryz.prog 59 91 5:=Af Go.Proofs.Tryz.laysB169 Go.Proofs.Tryz.Builder_Extra_B ⟨Go.Proofs.Tryz.f59,Go.Proofs.Tryz.func59,rfl,by kernel_rfl⟩
theorem Hr:uA Go.Proofs.Tryz.prog aa (E aG):=uA.bld (fun T i h=>(rc G1).look T i h) (pks:=I8) Hj Hv BM zJ rfl
theorem lv_ok (k:Nat):jN Go.Proofs.Tryz.prog aa pR (cX (E aG) k):=
 HL (E:=E aG) Hr (fun _ _=>rfl) (fun f fi h=>G0.look f fi h) (fun f args r _ h=>HH f args r h) mixed k
end Go.Proofs.YtjkokaockhecnaaGreatDoorA
