/- The program is what the machine is told of it, so that what the machine answers of a call is what the program answers; no condition. -/
import Derived.Test.YtjkokaockhecnaaGreatDoorExt3
import Derived.Test.YtjkokaockhecnaaGreatDoorBld4
import Derived.Test.YtjkokaockhecnaaGreatDoorShelf
import Derived.Test.YtjkokaockhecnaaGreatDoorEnv
namespace Go.Proofs.YtjkokaockhecnaaGreatDoorA
open Go
set_option linter.unusedVariables false
def N9 (t:El):Nat:=
 match t with
 |.int .i64=>3
 |.bool=>4
 |.int .u8=>5
 |.str=>9
 |.list .str=>23
 |.arr=>27
 |.node=>58
 |_=>0
def Tabs (w:World):Prop:=SentIs Go.Proofs.Tryz.prog w "strconv.ErrSyntax" ∧SentIs Go.Proofs.Tryz.prog w "strconv.ErrRange" ∧Lib.TabIs Go.Proofs.Tryz.prog w "internal/strconv.uint64pow10" .u64 Lib.pow10Tab∧IntIs Go.Proofs.Tryz.prog w "internal/bytealg.MaxLen"
theorem JF:(Go.Proofs.Tryz.prog).globalNamed "strconv.ErrSyntax" =some 0:=by kernel_rfl
theorem J0:(Go.Proofs.Tryz.prog).globalNamed "strconv.ErrRange" =some 1:=by kernel_rfl
theorem JY:(Go.Proofs.Tryz.prog).globalNamed "internal/strconv.uint64pow10" =some 2:=by kernel_rfl
theorem Gs:(Go.Proofs.Tryz.prog).globalNamed "internal/bytealg.MaxLen" =some 3:=by kernel_rfl
def ab:bV:=⟨N9,[0,1,2,3],Tabs,fun w w' q h=>⟨sB JF (q 0 (by decide)) h.1,sB J0 (q 1 (by decide)) h.2.1,Ak JY (q 2 (by decide)) h.2.2.1,zX Gs (q 3 (by decide)) h.2.2.2⟩⟩
theorem tabs_ok {W:World}(h:Tabs W):jX ab W ⟨fun _ _=>.imm,fun _ _=>.slice none 0 0,fun _=>(0,0)⟩:=by
 refine ⟨h,fun b hb=>⟨?_,fun _=>rfl⟩⟩
 have hb':b∈[0,1,2,3]:=hb
 simp only [List.mem_cons,List.not_mem_nil,or_false] at hb'
 rcases hb' with e|e|e|e
 ·rw [e];exact B2 JF h.1
 ·rw [e];exact B2 J0 h.2.1
 ·rw [e];exact LL JY h.2.2.1
 ·rw [e];exact Lu Gs h.2.2.2
theorem LF:Bv Go.Proofs.Tryz.prog ab OX=true:=by kernel_rfl
theorem KI:a7 Go.Proofs.Tryz.prog 4 OU:=⟨Go.Proofs.Tryz.f4,Go.Proofs.Tryz.func4,rfl,rfl,rfl,by kernel_rfl⟩
theorem IK:a7 Go.Proofs.Tryz.prog 16 MN:=⟨Go.Proofs.Tryz.f16,Go.Proofs.Tryz.func16,rfl,rfl,rfl,by kernel_rfl⟩
theorem Hz:a7 Go.Proofs.Tryz.prog 17 Ld:=⟨Go.Proofs.Tryz.f17,Go.Proofs.Tryz.func17,rfl,rfl,rfl,by kernel_rfl⟩
theorem H5:a7 Go.Proofs.Tryz.prog 20 Md:=⟨Go.Proofs.Tryz.f20,Go.Proofs.Tryz.func20,rfl,rfl,rfl,by kernel_rfl⟩
theorem Iz:a7 Go.Proofs.Tryz.prog 21 Nv:=⟨Go.Proofs.Tryz.f21,Go.Proofs.Tryz.func21,rfl,rfl,rfl,by kernel_rfl⟩
theorem Hk:a7 Go.Proofs.Tryz.prog 22 He:=⟨Go.Proofs.Tryz.f22,Go.Proofs.Tryz.func22,rfl,rfl,rfl,by kernel_rfl⟩
theorem Ip:a7 Go.Proofs.Tryz.prog 23 LJ:=⟨Go.Proofs.Tryz.f23,Go.Proofs.Tryz.func23,rfl,rfl,rfl,by kernel_rfl⟩
theorem IC:a7 Go.Proofs.Tryz.prog 24 K2:=⟨Go.Proofs.Tryz.f24,Go.Proofs.Tryz.func24,rfl,rfl,rfl,by kernel_rfl⟩
theorem Hh:a7 Go.Proofs.Tryz.prog 25 K6:=⟨Go.Proofs.Tryz.f25,Go.Proofs.Tryz.func25,rfl,rfl,rfl,by kernel_rfl⟩
theorem If:a7 Go.Proofs.Tryz.prog 26 NH:=⟨Go.Proofs.Tryz.f26,Go.Proofs.Tryz.func26,rfl,rfl,rfl,by kernel_rfl⟩
theorem I7:a7 Go.Proofs.Tryz.prog 27 MK:=⟨Go.Proofs.Tryz.f27,Go.Proofs.Tryz.func27,rfl,rfl,rfl,by kernel_rfl⟩
theorem HY:a7 Go.Proofs.Tryz.prog 28 Nl:=⟨Go.Proofs.Tryz.f28,Go.Proofs.Tryz.func28,rfl,rfl,rfl,by kernel_rfl⟩
theorem I1:a7 Go.Proofs.Tryz.prog 29 MS:=⟨Go.Proofs.Tryz.f29,Go.Proofs.Tryz.func29,rfl,rfl,rfl,by kernel_rfl⟩
theorem IE:a7 Go.Proofs.Tryz.prog 30 Hw:=⟨Go.Proofs.Tryz.f30,Go.Proofs.Tryz.func30,rfl,rfl,rfl,by kernel_rfl⟩
theorem IA:a7 Go.Proofs.Tryz.prog 31 Nu:=⟨Go.Proofs.Tryz.f31,Go.Proofs.Tryz.func31,rfl,rfl,rfl,by kernel_rfl⟩
theorem HE:a7 Go.Proofs.Tryz.prog 32 IO:=⟨Go.Proofs.Tryz.f32,Go.Proofs.Tryz.func32,rfl,rfl,rfl,by kernel_rfl⟩
theorem H2:a7 Go.Proofs.Tryz.prog 38 Ls:=⟨Go.Proofs.Tryz.f38,Go.Proofs.Tryz.func38,rfl,rfl,rfl,by kernel_rfl⟩
theorem H6:a7 Go.Proofs.Tryz.prog 39 KQ:=⟨Go.Proofs.Tryz.f39,Go.Proofs.Tryz.func39,rfl,rfl,rfl,by kernel_rfl⟩
theorem G7:a7 Go.Proofs.Tryz.prog 46 LA:=⟨Go.Proofs.Tryz.f46,Go.Proofs.Tryz.func46,rfl,rfl,rfl,by kernel_rfl⟩
theorem Hm:a7 Go.Proofs.Tryz.prog 47 MJ:=⟨Go.Proofs.Tryz.f47,Go.Proofs.Tryz.func47,rfl,rfl,rfl,by kernel_rfl⟩
theorem Im:a7 Go.Proofs.Tryz.prog 48 KB:=⟨Go.Proofs.Tryz.f48,Go.Proofs.Tryz.func48,rfl,rfl,rfl,by kernel_rfl⟩
theorem Hv:a7 Go.Proofs.Tryz.prog 49 CU:=⟨Go.Proofs.Tryz.f49,Go.Proofs.Tryz.func49,rfl,rfl,rfl,by kernel_rfl⟩
theorem HZ:a7 Go.Proofs.Tryz.prog 52 Lx:=⟨Go.Proofs.Tryz.f52,Go.Proofs.Tryz.func52,rfl,rfl,rfl,by kernel_rfl⟩
theorem H8:a7 Go.Proofs.Tryz.prog 53 Lh:=⟨Go.Proofs.Tryz.f53,Go.Proofs.Tryz.func53,rfl,rfl,rfl,by kernel_rfl⟩
theorem IT:a7 Go.Proofs.Tryz.prog 54 Nw:=⟨Go.Proofs.Tryz.f54,Go.Proofs.Tryz.func54,rfl,rfl,rfl,by kernel_rfl⟩
theorem I8:a7 Go.Proofs.Tryz.prog 56 NX:=⟨Go.Proofs.Tryz.f56,Go.Proofs.Tryz.func56,rfl,rfl,rfl,by kernel_rfl⟩
theorem IS:a7 Go.Proofs.Tryz.prog 57 M5:=⟨Go.Proofs.Tryz.f57,Go.Proofs.Tryz.func57,rfl,rfl,rfl,by kernel_rfl⟩
theorem I3:a7 Go.Proofs.Tryz.prog 58 Hr:=⟨Go.Proofs.Tryz.f58,Go.Proofs.Tryz.func58,rfl,rfl,rfl,by kernel_rfl⟩
theorem Jd:a7 Go.Proofs.Tryz.prog 60 IZ:=⟨Go.Proofs.Tryz.f60,Go.Proofs.Tryz.func60,rfl,rfl,rfl,by kernel_rfl⟩
theorem HM:a7 Go.Proofs.Tryz.prog 61 GR:=⟨Go.Proofs.Tryz.f61,Go.Proofs.Tryz.func61,rfl,rfl,rfl,by kernel_rfl⟩
theorem Hi:a7 Go.Proofs.Tryz.prog 62 MZ:=⟨Go.Proofs.Tryz.f62,Go.Proofs.Tryz.func62,rfl,rfl,rfl,by kernel_rfl⟩
theorem IQ:a7 Go.Proofs.Tryz.prog 63 NZ:=⟨Go.Proofs.Tryz.f63,Go.Proofs.Tryz.func63,rfl,rfl,rfl,by kernel_rfl⟩
theorem Is:a7 Go.Proofs.Tryz.prog 64 ML:=⟨Go.Proofs.Tryz.f64,Go.Proofs.Tryz.func64,rfl,rfl,rfl,by kernel_rfl⟩
theorem ID:a7 Go.Proofs.Tryz.prog 65 Lo:=⟨Go.Proofs.Tryz.f65,Go.Proofs.Tryz.func65,rfl,rfl,rfl,by kernel_rfl⟩
theorem Hq:a7 Go.Proofs.Tryz.prog 66 LX:=⟨Go.Proofs.Tryz.f66,Go.Proofs.Tryz.func66,rfl,rfl,rfl,by kernel_rfl⟩
theorem Ix:a7 Go.Proofs.Tryz.prog 67 H4:=⟨Go.Proofs.Tryz.f67,Go.Proofs.Tryz.func67,rfl,rfl,rfl,by kernel_rfl⟩
theorem Hu:a7 Go.Proofs.Tryz.prog 68 N3:=⟨Go.Proofs.Tryz.f68,Go.Proofs.Tryz.func68,rfl,rfl,rfl,by kernel_rfl⟩
theorem HL:a7 Go.Proofs.Tryz.prog 69 MY:=⟨Go.Proofs.Tryz.f69,Go.Proofs.Tryz.func69,rfl,rfl,rfl,by kernel_rfl⟩
theorem Io:a7 Go.Proofs.Tryz.prog 70 Le:=⟨Go.Proofs.Tryz.f70,Go.Proofs.Tryz.func70,rfl,rfl,rfl,by kernel_rfl⟩
theorem HO:a7 Go.Proofs.Tryz.prog 71 NL:=⟨Go.Proofs.Tryz.f71,Go.Proofs.Tryz.func71,rfl,rfl,rfl,by kernel_rfl⟩
theorem HQ:a7 Go.Proofs.Tryz.prog 72 M4:=⟨Go.Proofs.Tryz.f72,Go.Proofs.Tryz.func72,rfl,rfl,rfl,by kernel_rfl⟩
theorem I6:a7 Go.Proofs.Tryz.prog 73 NS:=⟨Go.Proofs.Tryz.f73,Go.Proofs.Tryz.func73,rfl,rfl,rfl,by kernel_rfl⟩
theorem HB:a7 Go.Proofs.Tryz.prog 74 A8:=⟨Go.Proofs.Tryz.f74,Go.Proofs.Tryz.func74,rfl,rfl,rfl,by kernel_rfl⟩
theorem Hg:a7 Go.Proofs.Tryz.prog 75 F9:=⟨Go.Proofs.Tryz.f75,Go.Proofs.Tryz.func75,rfl,rfl,rfl,by kernel_rfl⟩
theorem Ij:a7 Go.Proofs.Tryz.prog 76 KC:=⟨Go.Proofs.Tryz.f76,Go.Proofs.Tryz.func76,rfl,rfl,rfl,by kernel_rfl⟩
theorem IW:a7 Go.Proofs.Tryz.prog 77 Ly:=⟨Go.Proofs.Tryz.f77,Go.Proofs.Tryz.func77,rfl,rfl,rfl,by kernel_rfl⟩
theorem Il:a7 Go.Proofs.Tryz.prog 78 LQ:=⟨Go.Proofs.Tryz.f78,Go.Proofs.Tryz.func78,rfl,rfl,rfl,by kernel_rfl⟩
theorem IJ:a7 Go.Proofs.Tryz.prog 86 Hy:=⟨Go.Proofs.Tryz.f86,Go.Proofs.Tryz.func86,rfl,rfl,rfl,by kernel_rfl⟩
theorem Jb:a7 Go.Proofs.Tryz.prog 87 HD:=⟨Go.Proofs.Tryz.f87,Go.Proofs.Tryz.func87,rfl,rfl,rfl,by kernel_rfl⟩
theorem Hf:a7 Go.Proofs.Tryz.prog 88 NN:=⟨Go.Proofs.Tryz.f88,Go.Proofs.Tryz.func88,rfl,rfl,rfl,by kernel_rfl⟩
theorem IG:a7 Go.Proofs.Tryz.prog 89 Na:=⟨Go.Proofs.Tryz.f89,Go.Proofs.Tryz.func89,rfl,rfl,rfl,by kernel_rfl⟩
theorem HT:a7 Go.Proofs.Tryz.prog 90 LH:=⟨Go.Proofs.Tryz.f90,Go.Proofs.Tryz.func90,rfl,rfl,rfl,by kernel_rfl⟩
theorem Je:a7 Go.Proofs.Tryz.prog 91 KR:=⟨Go.Proofs.Tryz.f91,Go.Proofs.Tryz.func91,rfl,rfl,rfl,by kernel_rfl⟩
theorem HI:a7 Go.Proofs.Tryz.prog 92 NA:=⟨Go.Proofs.Tryz.f92,Go.Proofs.Tryz.func92,rfl,rfl,rfl,by kernel_rfl⟩
theorem Hl:a7 Go.Proofs.Tryz.prog 93 Me:=⟨Go.Proofs.Tryz.f93,Go.Proofs.Tryz.func93,rfl,rfl,rfl,by kernel_rfl⟩
theorem Ha:a7 Go.Proofs.Tryz.prog 94 La:=⟨Go.Proofs.Tryz.f94,Go.Proofs.Tryz.func94,rfl,rfl,rfl,by kernel_rfl⟩
theorem Iu:a7 Go.Proofs.Tryz.prog 97 LI:=⟨Go.Proofs.Tryz.f97,Go.Proofs.Tryz.func97,rfl,rfl,rfl,by kernel_rfl⟩
theorem Hn:a7 Go.Proofs.Tryz.prog 98 NK:=⟨Go.Proofs.Tryz.f98,Go.Proofs.Tryz.func98,rfl,rfl,rfl,by kernel_rfl⟩
theorem G9:a7 Go.Proofs.Tryz.prog 99 Lr:=⟨Go.Proofs.Tryz.f99,Go.Proofs.Tryz.func99,rfl,rfl,rfl,by kernel_rfl⟩
theorem EX:a7 Go.Proofs.Tryz.prog 100 JI:=⟨Go.Proofs.Tryz.f100,Go.Proofs.Tryz.func100,rfl,rfl,rfl,by kernel_rfl⟩
theorem Fb:a7 Go.Proofs.Tryz.prog 101 Ec:=⟨Go.Proofs.Tryz.f101,Go.Proofs.Tryz.func101,rfl,rfl,rfl,by kernel_rfl⟩
theorem Ep:a7 Go.Proofs.Tryz.prog 102 Ee:=⟨Go.Proofs.Tryz.f102,Go.Proofs.Tryz.func102,rfl,rfl,rfl,by kernel_rfl⟩
theorem FR:a7 Go.Proofs.Tryz.prog 104 Kv:=⟨Go.Proofs.Tryz.f104,Go.Proofs.Tryz.func104,rfl,rfl,rfl,by kernel_rfl⟩
theorem Gt:a7 Go.Proofs.Tryz.prog 106 Fo:=⟨Go.Proofs.Tryz.f106,Go.Proofs.Tryz.func106,rfl,rfl,rfl,by kernel_rfl⟩
theorem GU:a7 Go.Proofs.Tryz.prog 107 G0:=⟨Go.Proofs.Tryz.f107,Go.Proofs.Tryz.func107,rfl,rfl,rfl,by kernel_rfl⟩
theorem D1:a7 Go.Proofs.Tryz.prog 108 Jv:=⟨Go.Proofs.Tryz.f108,Go.Proofs.Tryz.func108,rfl,rfl,rfl,by kernel_rfl⟩
theorem FX:a7 Go.Proofs.Tryz.prog 109 BI:=⟨Go.Proofs.Tryz.f109,Go.Proofs.Tryz.func109,rfl,rfl,rfl,by kernel_rfl⟩
theorem Ej:a7 Go.Proofs.Tryz.prog 110 Jt:=⟨Go.Proofs.Tryz.f110,Go.Proofs.Tryz.func110,rfl,rfl,rfl,by kernel_rfl⟩
theorem Et:a7 Go.Proofs.Tryz.prog 111 J5:=⟨Go.Proofs.Tryz.f111,Go.Proofs.Tryz.func111,rfl,rfl,rfl,by kernel_rfl⟩
theorem G3:a7 Go.Proofs.Tryz.prog 112 Jy:=⟨Go.Proofs.Tryz.f112,Go.Proofs.Tryz.func112,rfl,rfl,rfl,by kernel_rfl⟩
theorem FU:a7 Go.Proofs.Tryz.prog 113 GO:=⟨Go.Proofs.Tryz.f113,Go.Proofs.Tryz.func113,rfl,rfl,rfl,by kernel_rfl⟩
theorem E3:a7 Go.Proofs.Tryz.prog 114 Jn:=⟨Go.Proofs.Tryz.f114,Go.Proofs.Tryz.func114,rfl,rfl,rfl,by kernel_rfl⟩
theorem D7:a7 Go.Proofs.Tryz.prog 115 Br:=⟨Go.Proofs.Tryz.f115,Go.Proofs.Tryz.func115,rfl,rfl,rfl,by kernel_rfl⟩
theorem E4:a7 Go.Proofs.Tryz.prog 117 Jj:=⟨Go.Proofs.Tryz.f117,Go.Proofs.Tryz.func117,rfl,rfl,rfl,by kernel_rfl⟩
theorem G1:a7 Go.Proofs.Tryz.prog 118 JD:=⟨Go.Proofs.Tryz.f118,Go.Proofs.Tryz.func118,rfl,rfl,rfl,by kernel_rfl⟩
theorem EU:a7 Go.Proofs.Tryz.prog 119 Jk:=⟨Go.Proofs.Tryz.f119,Go.Proofs.Tryz.func119,rfl,rfl,rfl,by kernel_rfl⟩
theorem GW:a7 Go.Proofs.Tryz.prog 120 JJ:=⟨Go.Proofs.Tryz.f120,Go.Proofs.Tryz.func120,rfl,rfl,rfl,by kernel_rfl⟩
theorem E8:a7 Go.Proofs.Tryz.prog 121 Jm:=⟨Go.Proofs.Tryz.f121,Go.Proofs.Tryz.func121,rfl,rfl,rfl,by kernel_rfl⟩
theorem EY:a7 Go.Proofs.Tryz.prog 122 E9:=⟨Go.Proofs.Tryz.f122,Go.Proofs.Tryz.func122,rfl,rfl,rfl,by kernel_rfl⟩
theorem Ef:a7 Go.Proofs.Tryz.prog 123 JL:=⟨Go.Proofs.Tryz.f123,Go.Proofs.Tryz.func123,rfl,rfl,rfl,by kernel_rfl⟩
theorem Es:a7 Go.Proofs.Tryz.prog 124 Gm:=⟨Go.Proofs.Tryz.f124,Go.Proofs.Tryz.func124,rfl,rfl,rfl,by kernel_rfl⟩
theorem Gy:a7 Go.Proofs.Tryz.prog 125 Ko:=⟨Go.Proofs.Tryz.f125,Go.Proofs.Tryz.func125,rfl,rfl,rfl,by kernel_rfl⟩
theorem Eo:a7 Go.Proofs.Tryz.prog 126 Jo:=⟨Go.Proofs.Tryz.f126,Go.Proofs.Tryz.func126,rfl,rfl,rfl,by kernel_rfl⟩
theorem Fz:a7 Go.Proofs.Tryz.prog 127 JV:=⟨Go.Proofs.Tryz.f127,Go.Proofs.Tryz.func127,rfl,rfl,rfl,by kernel_rfl⟩
theorem EE:a7 Go.Proofs.Tryz.prog 128 JC:=⟨Go.Proofs.Tryz.f128,Go.Proofs.Tryz.func128,rfl,rfl,rfl,by kernel_rfl⟩
theorem FM:a7 Go.Proofs.Tryz.prog 129 Ek:=⟨Go.Proofs.Tryz.f129,Go.Proofs.Tryz.func129,rfl,rfl,rfl,by kernel_rfl⟩
theorem Fq:a7 Go.Proofs.Tryz.prog 133 FZ:=⟨Go.Proofs.Tryz.f133,Go.Proofs.Tryz.func133,rfl,rfl,rfl,by kernel_rfl⟩
theorem Ft:a7 Go.Proofs.Tryz.prog 134 GT:=⟨Go.Proofs.Tryz.f134,Go.Proofs.Tryz.func134,rfl,rfl,rfl,by kernel_rfl⟩
theorem D3:a7 Go.Proofs.Tryz.prog 135 Jz:=⟨Go.Proofs.Tryz.f135,Go.Proofs.Tryz.func135,rfl,rfl,rfl,by kernel_rfl⟩
theorem Fe:a7 Go.Proofs.Tryz.prog 141 JB:=⟨Go.Proofs.Tryz.f141,Go.Proofs.Tryz.func141,rfl,rfl,rfl,by kernel_rfl⟩
theorem GN:a7 Go.Proofs.Tryz.prog 142 Ks:=⟨Go.Proofs.Tryz.f142,Go.Proofs.Tryz.func142,rfl,rfl,rfl,by kernel_rfl⟩
theorem Gi:a7 Go.Proofs.Tryz.prog 143 JX:=⟨Go.Proofs.Tryz.f143,Go.Proofs.Tryz.func143,rfl,rfl,rfl,by kernel_rfl⟩
theorem EB:a7 Go.Proofs.Tryz.prog 144 BW:=⟨Go.Proofs.Tryz.f144,Go.Proofs.Tryz.func144,rfl,rfl,rfl,by kernel_rfl⟩
theorem GV:a7 Go.Proofs.Tryz.prog 145 J1:=⟨Go.Proofs.Tryz.f145,Go.Proofs.Tryz.func145,rfl,rfl,rfl,by kernel_rfl⟩
theorem E0:a7 Go.Proofs.Tryz.prog 146 F2:=⟨Go.Proofs.Tryz.f146,Go.Proofs.Tryz.func146,rfl,rfl,rfl,by kernel_rfl⟩
theorem EK:a7 Go.Proofs.Tryz.prog 147 EO:=⟨Go.Proofs.Tryz.f147,Go.Proofs.Tryz.func147,rfl,rfl,rfl,by kernel_rfl⟩
theorem Gv:a7 Go.Proofs.Tryz.prog 148 JO:=⟨Go.Proofs.Tryz.f148,Go.Proofs.Tryz.func148,rfl,rfl,rfl,by kernel_rfl⟩
theorem Gu:a7 Go.Proofs.Tryz.prog 149 FO:=⟨Go.Proofs.Tryz.f149,Go.Proofs.Tryz.func149,rfl,rfl,rfl,by kernel_rfl⟩
theorem FB:a7 Go.Proofs.Tryz.prog 150 Bz:=⟨Go.Proofs.Tryz.f150,Go.Proofs.Tryz.func150,rfl,rfl,rfl,by kernel_rfl⟩
theorem D2:a7 Go.Proofs.Tryz.prog 152 JG:=⟨Go.Proofs.Tryz.f152,Go.Proofs.Tryz.func152,rfl,rfl,rfl,by kernel_rfl⟩
theorem GQ:a7 Go.Proofs.Tryz.prog 155 J2:=⟨Go.Proofs.Tryz.f155,Go.Proofs.Tryz.func155,rfl,rfl,rfl,by kernel_rfl⟩
theorem GZ:a7 Go.Proofs.Tryz.prog 156 JE:=⟨Go.Proofs.Tryz.f156,Go.Proofs.Tryz.func156,rfl,rfl,rfl,by kernel_rfl⟩
theorem Gj:a7 Go.Proofs.Tryz.prog 157 yC:=⟨Go.Proofs.Tryz.f157,Go.Proofs.Tryz.func157,rfl,rfl,rfl,by kernel_rfl⟩
theorem FG:a7 Go.Proofs.Tryz.prog 158 JW:=⟨Go.Proofs.Tryz.f158,Go.Proofs.Tryz.func158,rfl,rfl,rfl,by kernel_rfl⟩
theorem EN:a7 Go.Proofs.Tryz.prog 172 F3:=⟨Go.Proofs.Tryz.f172,Go.Proofs.Tryz.func172,rfl,rfl,rfl,by kernel_rfl⟩
theorem FP:a7 Go.Proofs.Tryz.prog 173 Jr:=⟨Go.Proofs.Tryz.f173,Go.Proofs.Tryz.func173,rfl,rfl,rfl,by kernel_rfl⟩
theorem F8:a7 Go.Proofs.Tryz.prog 174 JH:=⟨Go.Proofs.Tryz.f174,Go.Proofs.Tryz.func174,rfl,rfl,rfl,by kernel_rfl⟩
theorem FK:a7 Go.Proofs.Tryz.prog 175 JA:=⟨Go.Proofs.Tryz.f175,Go.Proofs.Tryz.func175,rfl,rfl,rfl,by kernel_rfl⟩
theorem Eb:a7 Go.Proofs.Tryz.prog 176 FC:=⟨Go.Proofs.Tryz.f176,Go.Proofs.Tryz.func176,rfl,rfl,rfl,by kernel_rfl⟩
theorem Gg:a7 Go.Proofs.Tryz.prog 177 Ji:=⟨Go.Proofs.Tryz.f177,Go.Proofs.Tryz.func177,rfl,rfl,rfl,by kernel_rfl⟩
theorem GG:a7 Go.Proofs.Tryz.prog 178 J3:=⟨Go.Proofs.Tryz.f178,Go.Proofs.Tryz.func178,rfl,rfl,rfl,by kernel_rfl⟩
theorem EZ:a7 Go.Proofs.Tryz.prog 179 JQ:=⟨Go.Proofs.Tryz.f179,Go.Proofs.Tryz.func179,rfl,rfl,rfl,by kernel_rfl⟩
theorem E7:a7 Go.Proofs.Tryz.prog 180 Jw:=⟨Go.Proofs.Tryz.f180,Go.Proofs.Tryz.func180,rfl,rfl,rfl,by kernel_rfl⟩
theorem Ed:a7 Go.Proofs.Tryz.prog 181 Eu:=⟨Go.Proofs.Tryz.f181,Go.Proofs.Tryz.func181,rfl,rfl,rfl,by kernel_rfl⟩
theorem EP:a7 Go.Proofs.Tryz.prog 187 J4:=⟨Go.Proofs.Tryz.f187,Go.Proofs.Tryz.func187,rfl,rfl,rfl,by kernel_rfl⟩
theorem D8:a7 Go.Proofs.Tryz.prog 192 FQ:=⟨Go.Proofs.Tryz.f192,Go.Proofs.Tryz.func192,rfl,rfl,rfl,by kernel_rfl⟩
theorem Gn:a7 Go.Proofs.Tryz.prog 198 JR:=⟨Go.Proofs.Tryz.f198,Go.Proofs.Tryz.func198,rfl,rfl,rfl,by kernel_rfl⟩
theorem K8:Ea (a7 Go.Proofs.Tryz.prog) OV:=⟨KI,IK,Hz,H5,Iz,Hk,Ip,IC,Hh,If,I7,HY,I1,IE,IA,HE,H2,H6,G7,Hm,Im,Hv,HZ,H8,IT,I8,IS,I3,Jd,HM,Hi,IQ,Is,ID,Hq,Ix,Hu,HL,Io,HO,HQ,I6,HB,Hg,Ij,IW,Il,IJ,Jb,Hf,IG,HT,Je,HI,Hl,Ha,Iu,Hn,G9,EX,Fb,Ep,FR,Gt,GU,D1,FX,Ej,Et,G3,FU,E3,D7,E4,G1,EU,GW,E8,EY,Ef,Es,Gy,Eo,Fz,EE,FM,Fq,Ft,D3,Fe,GN,Gi,EB,GV,E0,EK,Gv,Gu,FB,D2,GQ,GZ,Gj,FG,EN,FP,F8,FK,Eb,Gg,GG,EZ,E7,Ed,EP,D8,Gn,trivial⟩
theorem mixed:(Go.Proofs.Tryz.prog).follows .mixedOrders=true:=by kernel_rfl
theorem KN (f:FuncId)(args:List md)(r:(rC f).den)(h:FS f args=some r):ii Go.Proofs.Tryz.prog ab rC f args r:=by
 unfold FS at h
 by_cases e105:f=105
 ·subst e105
  rw [dif_pos rfl] at h
  exact IR (by kernel_rfl) ⟨Go.Proofs.Tryz.f105,Go.Proofs.Tryz.func105,rfl,by kernel_rfl⟩ Go.Proofs.Tryz.strconv_Atoi_ok Go.Proofs.Tryz.strconv_Atoi_syntax_var Go.Proofs.Tryz.strconv_Atoi_range_var (fun _ h=>h.1) (fun _ h=>h.2.1) h HEq.rfl
 rw [dif_neg e105] at h
 by_cases e159:f=159
 ·subst e159
  rw [dif_pos rfl] at h
  exact Ik (by kernel_rfl) ⟨Go.Proofs.Tryz.f159,Go.Proofs.Tryz.func159,rfl,by kernel_rfl⟩ Go.Proofs.Tryz.strconv_Itoa (fun _ h=>h.2.2.1) h HEq.rfl
 rw [dif_neg e159] at h
 by_cases e193:f=193
 ·subst e193
  rw [dif_pos rfl] at h
  exact KG (by kernel_rfl) ⟨Go.Proofs.Tryz.f193,Go.Proofs.Tryz.func193,rfl,by kernel_rfl⟩ Go.Proofs.Tryz.strings_Cut (fun _ h=>EI Gs h.2.2.2) h HEq.rfl
 rw [dif_neg e193] at h
 cases h
theorem KV (f:Nat):(E aF).pks f=match look f Nz with|some l=>l|none=>[]:=by
 show Gz f=_
 unfold Gz
 cases look f Nz<;>rfl
theorem KU:uA 55 59 91 5 Nz=true:=by kernel_rfl
theorem ED:EG Go.Proofs.Tryz.prog 55 91 (ab (.int .u8)):=Ew Go.Proofs.Tryz.laysB166 Go.Proofs.Tryz.Builder_Extra_B ⟨Go.Proofs.Tryz.f55,Go.Proofs.Tryz.func55,rfl,by kernel_rfl⟩
theorem DT:Gk Go.Proofs.Tryz.prog 59 91 5:=Ci Go.Proofs.Tryz.laysB169 Go.Proofs.Tryz.Builder_Extra_B ⟨Go.Proofs.Tryz.f59,Go.Proofs.Tryz.func59,rfl,by kernel_rfl⟩
theorem KT:wt Go.Proofs.Tryz.prog ab (E aF):=wt.bld (fun T i h=>(vl LF).look T i h) (pks:=Nz) KV KU ED DT rfl
theorem lv_ok (k:Nat):kt Go.Proofs.Tryz.prog ab rC (cH (E aF) k):=
 KJ (E:=E aF) KT (fun _ _=>rfl) (fun f fi h=>K8.look f fi h) (fun f args r _ h=>KN f args r h) mixed k
end Go.Proofs.YtjkokaockhecnaaGreatDoorA
