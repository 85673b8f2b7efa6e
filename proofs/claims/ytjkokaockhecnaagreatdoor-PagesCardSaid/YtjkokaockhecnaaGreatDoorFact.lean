/- The program is what the machine is told of it, so that what the machine answers of a call is what the program answers; no condition. -/
import Derived.Test.YtjkokaockhecnaaGreatDoorExt3
import Derived.Test.YtjkokaockhecnaaGreatDoorBld4
import Derived.Test.YtjkokaockhecnaaGreatDoorShelf
import Derived.Test.YtjkokaockhecnaaGreatDoorEnv
namespace Go.Proofs.YtjkokaockhecnaaGreatDoorA
open Go
set_option linter.unusedVariables false
def MI (t:El):Nat:=
 match t with
 |.int .i64=>3
 |.bool=>4
 |.int .u8=>5
 |.str=>9
 |.list .str=>23
 |.arr=>27
 |.node=>58
 |_=>0
def Tabs (w:World):Prop:=SentIs Go.Proofs.Tryz.prog w "strconv.ErrSyntax" ∧SentIs Go.Proofs.Tryz.prog w "strconv.ErrRange" ∧Lib.TabIs Go.Proofs.Tryz.prog w "internal/strconv.uint64pow10" .u64 Lib.pow10Tab∧IntIs Go.Proofs.Tryz.prog w "internal/bytealg.MaxLen"
theorem J8:(Go.Proofs.Tryz.prog).globalNamed "strconv.ErrSyntax" =some 0:=by kernel_rfl
theorem JA:(Go.Proofs.Tryz.prog).globalNamed "strconv.ErrRange" =some 1:=by kernel_rfl
theorem Jr:(Go.Proofs.Tryz.prog).globalNamed "internal/strconv.uint64pow10" =some 2:=by kernel_rfl
theorem Fh:(Go.Proofs.Tryz.prog).globalNamed "internal/bytealg.MaxLen" =some 3:=by kernel_rfl
def ab:bV:=⟨MI,[0,1,2,3],Tabs,fun w w' q h=>⟨rr J8 (q 0 (by decide)) h.1,rr JA (q 1 (by decide)) h.2.1,zM Jr (q 2 (by decide)) h.2.2.1,AG Fh (q 3 (by decide)) h.2.2.2⟩⟩
theorem tabs_ok {W:World}(h:Tabs W):jP ab W ⟨fun _ _=>.imm,fun _ _=>.slice none 0 0,fun _=>(0,0)⟩:=by
 refine ⟨h,fun b hb=>⟨?_,fun _=>rfl⟩⟩
 have hb':b∈[0,1,2,3]:=hb
 simp only [List.mem_cons,List.not_mem_nil,or_false] at hb'
 rcases hb' with e|e|e|e
 ·rw [e];exact Bl J8 h.1
 ·rw [e];exact Bl JA h.2.1
 ·rw [e];exact KY Jr h.2.2.1
 ·rw [e];exact KP Fh h.2.2.2
theorem KI:BR Go.Proofs.Tryz.prog ab OW=true:=by kernel_rfl
theorem K5:a7 Go.Proofs.Tryz.prog 4 OU:=⟨Go.Proofs.Tryz.f4,Go.Proofs.Tryz.func4,rfl,rfl,rfl,by kernel_rfl⟩
theorem Ip:a7 Go.Proofs.Tryz.prog 16 MN:=⟨Go.Proofs.Tryz.f16,Go.Proofs.Tryz.func16,rfl,rfl,rfl,by kernel_rfl⟩
theorem IL:a7 Go.Proofs.Tryz.prog 17 LN:=⟨Go.Proofs.Tryz.f17,Go.Proofs.Tryz.func17,rfl,rfl,rfl,by kernel_rfl⟩
theorem HE:a7 Go.Proofs.Tryz.prog 20 MW:=⟨Go.Proofs.Tryz.f20,Go.Proofs.Tryz.func20,rfl,rfl,rfl,by kernel_rfl⟩
theorem IT:a7 Go.Proofs.Tryz.prog 21 NL:=⟨Go.Proofs.Tryz.f21,Go.Proofs.Tryz.func21,rfl,rfl,rfl,by kernel_rfl⟩
theorem H8:a7 Go.Proofs.Tryz.prog 22 Hi:=⟨Go.Proofs.Tryz.f22,Go.Proofs.Tryz.func22,rfl,rfl,rfl,by kernel_rfl⟩
theorem Ik:a7 Go.Proofs.Tryz.prog 23 K3:=⟨Go.Proofs.Tryz.f23,Go.Proofs.Tryz.func23,rfl,rfl,rfl,by kernel_rfl⟩
theorem Hz:a7 Go.Proofs.Tryz.prog 24 KO:=⟨Go.Proofs.Tryz.f24,Go.Proofs.Tryz.func24,rfl,rfl,rfl,by kernel_rfl⟩
theorem Iz:a7 Go.Proofs.Tryz.prog 25 KQ:=⟨Go.Proofs.Tryz.f25,Go.Proofs.Tryz.func25,rfl,rfl,rfl,by kernel_rfl⟩
theorem IV:a7 Go.Proofs.Tryz.prog 26 Nl:=⟨Go.Proofs.Tryz.f26,Go.Proofs.Tryz.func26,rfl,rfl,rfl,by kernel_rfl⟩
theorem IG:a7 Go.Proofs.Tryz.prog 27 LX:=⟨Go.Proofs.Tryz.f27,Go.Proofs.Tryz.func27,rfl,rfl,rfl,by kernel_rfl⟩
theorem I4:a7 Go.Proofs.Tryz.prog 28 N7:=⟨Go.Proofs.Tryz.f28,Go.Proofs.Tryz.func28,rfl,rfl,rfl,by kernel_rfl⟩
theorem Iq:a7 Go.Proofs.Tryz.prog 29 NY:=⟨Go.Proofs.Tryz.f29,Go.Proofs.Tryz.func29,rfl,rfl,rfl,by kernel_rfl⟩
theorem IB:a7 Go.Proofs.Tryz.prog 30 H7:=⟨Go.Proofs.Tryz.f30,Go.Proofs.Tryz.func30,rfl,rfl,rfl,by kernel_rfl⟩
theorem Hj:a7 Go.Proofs.Tryz.prog 31 Nx:=⟨Go.Proofs.Tryz.f31,Go.Proofs.Tryz.func31,rfl,rfl,rfl,by kernel_rfl⟩
theorem IS:a7 Go.Proofs.Tryz.prog 32 HI:=⟨Go.Proofs.Tryz.f32,Go.Proofs.Tryz.func32,rfl,rfl,rfl,by kernel_rfl⟩
theorem HW:a7 Go.Proofs.Tryz.prog 38 LF:=⟨Go.Proofs.Tryz.f38,Go.Proofs.Tryz.func38,rfl,rfl,rfl,by kernel_rfl⟩
theorem HQ:a7 Go.Proofs.Tryz.prog 39 K7:=⟨Go.Proofs.Tryz.f39,Go.Proofs.Tryz.func39,rfl,rfl,rfl,by kernel_rfl⟩
theorem IY:a7 Go.Proofs.Tryz.prog 46 LM:=⟨Go.Proofs.Tryz.f46,Go.Proofs.Tryz.func46,rfl,rfl,rfl,by kernel_rfl⟩
theorem HF:a7 Go.Proofs.Tryz.prog 47 MK:=⟨Go.Proofs.Tryz.f47,Go.Proofs.Tryz.func47,rfl,rfl,rfl,by kernel_rfl⟩
theorem Jf:a7 Go.Proofs.Tryz.prog 48 Lm:=⟨Go.Proofs.Tryz.f48,Go.Proofs.Tryz.func48,rfl,rfl,rfl,by kernel_rfl⟩
theorem Hn:a7 Go.Proofs.Tryz.prog 49 CY:=⟨Go.Proofs.Tryz.f49,Go.Proofs.Tryz.func49,rfl,rfl,rfl,by kernel_rfl⟩
theorem IX:a7 Go.Proofs.Tryz.prog 52 KT:=⟨Go.Proofs.Tryz.f52,Go.Proofs.Tryz.func52,rfl,rfl,rfl,by kernel_rfl⟩
theorem G8:a7 Go.Proofs.Tryz.prog 53 LE:=⟨Go.Proofs.Tryz.f53,Go.Proofs.Tryz.func53,rfl,rfl,rfl,by kernel_rfl⟩
theorem HO:a7 Go.Proofs.Tryz.prog 54 Nr:=⟨Go.Proofs.Tryz.f54,Go.Proofs.Tryz.func54,rfl,rfl,rfl,by kernel_rfl⟩
theorem Ic:a7 Go.Proofs.Tryz.prog 56 MM:=⟨Go.Proofs.Tryz.f56,Go.Proofs.Tryz.func56,rfl,rfl,rfl,by kernel_rfl⟩
theorem I0:a7 Go.Proofs.Tryz.prog 57 N3:=⟨Go.Proofs.Tryz.f57,Go.Proofs.Tryz.func57,rfl,rfl,rfl,by kernel_rfl⟩
theorem Jd:a7 Go.Proofs.Tryz.prog 58 Im:=⟨Go.Proofs.Tryz.f58,Go.Proofs.Tryz.func58,rfl,rfl,rfl,by kernel_rfl⟩
theorem I1:a7 Go.Proofs.Tryz.prog 60 Ht:=⟨Go.Proofs.Tryz.f60,Go.Proofs.Tryz.func60,rfl,rfl,rfl,by kernel_rfl⟩
theorem Hg:a7 Go.Proofs.Tryz.prog 61 Fa:=⟨Go.Proofs.Tryz.f61,Go.Proofs.Tryz.func61,rfl,rfl,rfl,by kernel_rfl⟩
theorem IJ:a7 Go.Proofs.Tryz.prog 62 NQ:=⟨Go.Proofs.Tryz.f62,Go.Proofs.Tryz.func62,rfl,rfl,rfl,by kernel_rfl⟩
theorem HH:a7 Go.Proofs.Tryz.prog 63 NU:=⟨Go.Proofs.Tryz.f63,Go.Proofs.Tryz.func63,rfl,rfl,rfl,by kernel_rfl⟩
theorem Iy:a7 Go.Proofs.Tryz.prog 64 L0:=⟨Go.Proofs.Tryz.f64,Go.Proofs.Tryz.func64,rfl,rfl,rfl,by kernel_rfl⟩
theorem HV:a7 Go.Proofs.Tryz.prog 65 K6:=⟨Go.Proofs.Tryz.f65,Go.Proofs.Tryz.func65,rfl,rfl,rfl,by kernel_rfl⟩
theorem Is:a7 Go.Proofs.Tryz.prog 66 M8:=⟨Go.Proofs.Tryz.f66,Go.Proofs.Tryz.func66,rfl,rfl,rfl,by kernel_rfl⟩
theorem IC:a7 Go.Proofs.Tryz.prog 67 H4:=⟨Go.Proofs.Tryz.f67,Go.Proofs.Tryz.func67,rfl,rfl,rfl,by kernel_rfl⟩
theorem H9:a7 Go.Proofs.Tryz.prog 68 NA:=⟨Go.Proofs.Tryz.f68,Go.Proofs.Tryz.func68,rfl,rfl,rfl,by kernel_rfl⟩
theorem It:a7 Go.Proofs.Tryz.prog 69 NG:=⟨Go.Proofs.Tryz.f69,Go.Proofs.Tryz.func69,rfl,rfl,rfl,by kernel_rfl⟩
theorem IK:a7 Go.Proofs.Tryz.prog 70 LC:=⟨Go.Proofs.Tryz.f70,Go.Proofs.Tryz.func70,rfl,rfl,rfl,by kernel_rfl⟩
theorem IP:a7 Go.Proofs.Tryz.prog 71 L8:=⟨Go.Proofs.Tryz.f71,Go.Proofs.Tryz.func71,rfl,rfl,rfl,by kernel_rfl⟩
theorem HK:a7 Go.Proofs.Tryz.prog 72 MD:=⟨Go.Proofs.Tryz.f72,Go.Proofs.Tryz.func72,rfl,rfl,rfl,by kernel_rfl⟩
theorem HY:a7 Go.Proofs.Tryz.prog 73 MX:=⟨Go.Proofs.Tryz.f73,Go.Proofs.Tryz.func73,rfl,rfl,rfl,by kernel_rfl⟩
theorem HN:a7 Go.Proofs.Tryz.prog 74 A4:=⟨Go.Proofs.Tryz.f74,Go.Proofs.Tryz.func74,rfl,rfl,rfl,by kernel_rfl⟩
theorem IU:a7 Go.Proofs.Tryz.prog 75 FG:=⟨Go.Proofs.Tryz.f75,Go.Proofs.Tryz.func75,rfl,rfl,rfl,by kernel_rfl⟩
theorem IR:a7 Go.Proofs.Tryz.prog 76 KL:=⟨Go.Proofs.Tryz.f76,Go.Proofs.Tryz.func76,rfl,rfl,rfl,by kernel_rfl⟩
theorem Hk:a7 Go.Proofs.Tryz.prog 77 LL:=⟨Go.Proofs.Tryz.f77,Go.Proofs.Tryz.func77,rfl,rfl,rfl,by kernel_rfl⟩
theorem Iw:a7 Go.Proofs.Tryz.prog 78 Lt:=⟨Go.Proofs.Tryz.f78,Go.Proofs.Tryz.func78,rfl,rfl,rfl,by kernel_rfl⟩
theorem Hv:a7 Go.Proofs.Tryz.prog 86 HD:=⟨Go.Proofs.Tryz.f86,Go.Proofs.Tryz.func86,rfl,rfl,rfl,by kernel_rfl⟩
theorem Ir:a7 Go.Proofs.Tryz.prog 87 HU:=⟨Go.Proofs.Tryz.f87,Go.Proofs.Tryz.func87,rfl,rfl,rfl,by kernel_rfl⟩
theorem IZ:a7 Go.Proofs.Tryz.prog 88 ND:=⟨Go.Proofs.Tryz.f88,Go.Proofs.Tryz.func88,rfl,rfl,rfl,by kernel_rfl⟩
theorem Ja:a7 Go.Proofs.Tryz.prog 89 NN:=⟨Go.Proofs.Tryz.f89,Go.Proofs.Tryz.func89,rfl,rfl,rfl,by kernel_rfl⟩
theorem H3:a7 Go.Proofs.Tryz.prog 90 Kx:=⟨Go.Proofs.Tryz.f90,Go.Proofs.Tryz.func90,rfl,rfl,rfl,by kernel_rfl⟩
theorem Hl:a7 Go.Proofs.Tryz.prog 91 K0:=⟨Go.Proofs.Tryz.f91,Go.Proofs.Tryz.func91,rfl,rfl,rfl,by kernel_rfl⟩
theorem I9:a7 Go.Proofs.Tryz.prog 92 N6:=⟨Go.Proofs.Tryz.f92,Go.Proofs.Tryz.func92,rfl,rfl,rfl,by kernel_rfl⟩
theorem ID:a7 Go.Proofs.Tryz.prog 93 Nc:=⟨Go.Proofs.Tryz.f93,Go.Proofs.Tryz.func93,rfl,rfl,rfl,by kernel_rfl⟩
theorem Ix:a7 Go.Proofs.Tryz.prog 94 LP:=⟨Go.Proofs.Tryz.f94,Go.Proofs.Tryz.func94,rfl,rfl,rfl,by kernel_rfl⟩
theorem Hh:a7 Go.Proofs.Tryz.prog 97 K8:=⟨Go.Proofs.Tryz.f97,Go.Proofs.Tryz.func97,rfl,rfl,rfl,by kernel_rfl⟩
theorem Hy:a7 Go.Proofs.Tryz.prog 98 NR:=⟨Go.Proofs.Tryz.f98,Go.Proofs.Tryz.func98,rfl,rfl,rfl,by kernel_rfl⟩
theorem Hm:a7 Go.Proofs.Tryz.prog 99 K2:=⟨Go.Proofs.Tryz.f99,Go.Proofs.Tryz.func99,rfl,rfl,rfl,by kernel_rfl⟩
theorem E8:a7 Go.Proofs.Tryz.prog 100 Jl:=⟨Go.Proofs.Tryz.f100,Go.Proofs.Tryz.func100,rfl,rfl,rfl,by kernel_rfl⟩
theorem EY:a7 Go.Proofs.Tryz.prog 101 E4:=⟨Go.Proofs.Tryz.f101,Go.Proofs.Tryz.func101,rfl,rfl,rfl,by kernel_rfl⟩
theorem FH:a7 Go.Proofs.Tryz.prog 102 Gi:=⟨Go.Proofs.Tryz.f102,Go.Proofs.Tryz.func102,rfl,rfl,rfl,by kernel_rfl⟩
theorem FR:a7 Go.Proofs.Tryz.prog 104 JC:=⟨Go.Proofs.Tryz.f104,Go.Proofs.Tryz.func104,rfl,rfl,rfl,by kernel_rfl⟩
theorem Et:a7 Go.Proofs.Tryz.prog 106 G0:=⟨Go.Proofs.Tryz.f106,Go.Proofs.Tryz.func106,rfl,rfl,rfl,by kernel_rfl⟩
theorem Gj:a7 Go.Proofs.Tryz.prog 107 Fq:=⟨Go.Proofs.Tryz.f107,Go.Proofs.Tryz.func107,rfl,rfl,rfl,by kernel_rfl⟩
theorem Ea:a7 Go.Proofs.Tryz.prog 108 JO:=⟨Go.Proofs.Tryz.f108,Go.Proofs.Tryz.func108,rfl,rfl,rfl,by kernel_rfl⟩
theorem FK:a7 Go.Proofs.Tryz.prog 109 BL:=⟨Go.Proofs.Tryz.f109,Go.Proofs.Tryz.func109,rfl,rfl,rfl,by kernel_rfl⟩
theorem Gu:a7 Go.Proofs.Tryz.prog 110 Ku:=⟨Go.Proofs.Tryz.f110,Go.Proofs.Tryz.func110,rfl,rfl,rfl,by kernel_rfl⟩
theorem GB:a7 Go.Proofs.Tryz.prog 111 JQ:=⟨Go.Proofs.Tryz.f111,Go.Proofs.Tryz.func111,rfl,rfl,rfl,by kernel_rfl⟩
theorem EP:a7 Go.Proofs.Tryz.prog 112 JV:=⟨Go.Proofs.Tryz.f112,Go.Proofs.Tryz.func112,rfl,rfl,rfl,by kernel_rfl⟩
theorem EU:a7 Go.Proofs.Tryz.prog 113 EX:=⟨Go.Proofs.Tryz.f113,Go.Proofs.Tryz.func113,rfl,rfl,rfl,by kernel_rfl⟩
theorem EV:a7 Go.Proofs.Tryz.prog 114 Jy:=⟨Go.Proofs.Tryz.f114,Go.Proofs.Tryz.func114,rfl,rfl,rfl,by kernel_rfl⟩
theorem EL:a7 Go.Proofs.Tryz.prog 115 BU:=⟨Go.Proofs.Tryz.f115,Go.Proofs.Tryz.func115,rfl,rfl,rfl,by kernel_rfl⟩
theorem FZ:a7 Go.Proofs.Tryz.prog 117 Kt:=⟨Go.Proofs.Tryz.f117,Go.Proofs.Tryz.func117,rfl,rfl,rfl,by kernel_rfl⟩
theorem F6:a7 Go.Proofs.Tryz.prog 118 JS:=⟨Go.Proofs.Tryz.f118,Go.Proofs.Tryz.func118,rfl,rfl,rfl,by kernel_rfl⟩
theorem Eb:a7 Go.Proofs.Tryz.prog 119 JF:=⟨Go.Proofs.Tryz.f119,Go.Proofs.Tryz.func119,rfl,rfl,rfl,by kernel_rfl⟩
theorem GK:a7 Go.Proofs.Tryz.prog 120 JY:=⟨Go.Proofs.Tryz.f120,Go.Proofs.Tryz.func120,rfl,rfl,rfl,by kernel_rfl⟩
theorem Eo:a7 Go.Proofs.Tryz.prog 121 Jz:=⟨Go.Proofs.Tryz.f121,Go.Proofs.Tryz.func121,rfl,rfl,rfl,by kernel_rfl⟩
theorem EN:a7 Go.Proofs.Tryz.prog 122 E5:=⟨Go.Proofs.Tryz.f122,Go.Proofs.Tryz.func122,rfl,rfl,rfl,by kernel_rfl⟩
theorem Eu:a7 Go.Proofs.Tryz.prog 123 J1:=⟨Go.Proofs.Tryz.f123,Go.Proofs.Tryz.func123,rfl,rfl,rfl,by kernel_rfl⟩
theorem F3:a7 Go.Proofs.Tryz.prog 124 GE:=⟨Go.Proofs.Tryz.f124,Go.Proofs.Tryz.func124,rfl,rfl,rfl,by kernel_rfl⟩
theorem EM:a7 Go.Proofs.Tryz.prog 125 Kp:=⟨Go.Proofs.Tryz.f125,Go.Proofs.Tryz.func125,rfl,rfl,rfl,by kernel_rfl⟩
theorem EQ:a7 Go.Proofs.Tryz.prog 126 J5:=⟨Go.Proofs.Tryz.f126,Go.Proofs.Tryz.func126,rfl,rfl,rfl,by kernel_rfl⟩
theorem Gq:a7 Go.Proofs.Tryz.prog 127 J7:=⟨Go.Proofs.Tryz.f127,Go.Proofs.Tryz.func127,rfl,rfl,rfl,by kernel_rfl⟩
theorem FO:a7 Go.Proofs.Tryz.prog 128 JG:=⟨Go.Proofs.Tryz.f128,Go.Proofs.Tryz.func128,rfl,rfl,rfl,by kernel_rfl⟩
theorem D8:a7 Go.Proofs.Tryz.prog 129 D4:=⟨Go.Proofs.Tryz.f129,Go.Proofs.Tryz.func129,rfl,rfl,rfl,by kernel_rfl⟩
theorem D9:a7 Go.Proofs.Tryz.prog 133 Ey:=⟨Go.Proofs.Tryz.f133,Go.Proofs.Tryz.func133,rfl,rfl,rfl,by kernel_rfl⟩
theorem D2:a7 Go.Proofs.Tryz.prog 134 GL:=⟨Go.Proofs.Tryz.f134,Go.Proofs.Tryz.func134,rfl,rfl,rfl,by kernel_rfl⟩
theorem F7:a7 Go.Proofs.Tryz.prog 135 JB:=⟨Go.Proofs.Tryz.f135,Go.Proofs.Tryz.func135,rfl,rfl,rfl,by kernel_rfl⟩
theorem ED:a7 Go.Proofs.Tryz.prog 141 Jj:=⟨Go.Proofs.Tryz.f141,Go.Proofs.Tryz.func141,rfl,rfl,rfl,by kernel_rfl⟩
theorem EH:a7 Go.Proofs.Tryz.prog 142 JH:=⟨Go.Proofs.Tryz.f142,Go.Proofs.Tryz.func142,rfl,rfl,rfl,by kernel_rfl⟩
theorem FW:a7 Go.Proofs.Tryz.prog 143 JK:=⟨Go.Proofs.Tryz.f143,Go.Proofs.Tryz.func143,rfl,rfl,rfl,by kernel_rfl⟩
theorem En:a7 Go.Proofs.Tryz.prog 144 B2:=⟨Go.Proofs.Tryz.f144,Go.Proofs.Tryz.func144,rfl,rfl,rfl,by kernel_rfl⟩
theorem DY:a7 Go.Proofs.Tryz.prog 145 Jt:=⟨Go.Proofs.Tryz.f145,Go.Proofs.Tryz.func145,rfl,rfl,rfl,by kernel_rfl⟩
theorem GN:a7 Go.Proofs.Tryz.prog 146 Gs:=⟨Go.Proofs.Tryz.f146,Go.Proofs.Tryz.func146,rfl,rfl,rfl,by kernel_rfl⟩
theorem F4:a7 Go.Proofs.Tryz.prog 147 EB:=⟨Go.Proofs.Tryz.f147,Go.Proofs.Tryz.func147,rfl,rfl,rfl,by kernel_rfl⟩
theorem E1:a7 Go.Proofs.Tryz.prog 148 Ji:=⟨Go.Proofs.Tryz.f148,Go.Proofs.Tryz.func148,rfl,rfl,rfl,by kernel_rfl⟩
theorem GO:a7 Go.Proofs.Tryz.prog 149 FP:=⟨Go.Proofs.Tryz.f149,Go.Proofs.Tryz.func149,rfl,rfl,rfl,by kernel_rfl⟩
theorem Ge:a7 Go.Proofs.Tryz.prog 150 BZ:=⟨Go.Proofs.Tryz.f150,Go.Proofs.Tryz.func150,rfl,rfl,rfl,by kernel_rfl⟩
theorem GP:a7 Go.Proofs.Tryz.prog 152 Jm:=⟨Go.Proofs.Tryz.f152,Go.Proofs.Tryz.func152,rfl,rfl,rfl,by kernel_rfl⟩
theorem Fj:a7 Go.Proofs.Tryz.prog 155 Jo:=⟨Go.Proofs.Tryz.f155,Go.Proofs.Tryz.func155,rfl,rfl,rfl,by kernel_rfl⟩
theorem Gt:a7 Go.Proofs.Tryz.prog 156 JR:=⟨Go.Proofs.Tryz.f156,Go.Proofs.Tryz.func156,rfl,rfl,rfl,by kernel_rfl⟩
theorem E9:a7 Go.Proofs.Tryz.prog 157 yh:=⟨Go.Proofs.Tryz.f157,Go.Proofs.Tryz.func157,rfl,rfl,rfl,by kernel_rfl⟩
theorem Fp:a7 Go.Proofs.Tryz.prog 158 Jq:=⟨Go.Proofs.Tryz.f158,Go.Proofs.Tryz.func158,rfl,rfl,rfl,by kernel_rfl⟩
theorem Gv:a7 Go.Proofs.Tryz.prog 172 E2:=⟨Go.Proofs.Tryz.f172,Go.Proofs.Tryz.func172,rfl,rfl,rfl,by kernel_rfl⟩
theorem FU:a7 Go.Proofs.Tryz.prog 173 Jp:=⟨Go.Proofs.Tryz.f173,Go.Proofs.Tryz.func173,rfl,rfl,rfl,by kernel_rfl⟩
theorem EI:a7 Go.Proofs.Tryz.prog 174 J6:=⟨Go.Proofs.Tryz.f174,Go.Proofs.Tryz.func174,rfl,rfl,rfl,by kernel_rfl⟩
theorem D3:a7 Go.Proofs.Tryz.prog 175 JU:=⟨Go.Proofs.Tryz.f175,Go.Proofs.Tryz.func175,rfl,rfl,rfl,by kernel_rfl⟩
theorem GH:a7 Go.Proofs.Tryz.prog 176 F8:=⟨Go.Proofs.Tryz.f176,Go.Proofs.Tryz.func176,rfl,rfl,rfl,by kernel_rfl⟩
theorem E7:a7 Go.Proofs.Tryz.prog 177 Jh:=⟨Go.Proofs.Tryz.f177,Go.Proofs.Tryz.func177,rfl,rfl,rfl,by kernel_rfl⟩
theorem EW:a7 Go.Proofs.Tryz.prog 178 Kv:=⟨Go.Proofs.Tryz.f178,Go.Proofs.Tryz.func178,rfl,rfl,rfl,by kernel_rfl⟩
theorem EK:a7 Go.Proofs.Tryz.prog 179 JL:=⟨Go.Proofs.Tryz.f179,Go.Proofs.Tryz.func179,rfl,rfl,rfl,by kernel_rfl⟩
theorem GM:a7 Go.Proofs.Tryz.prog 180 J4:=⟨Go.Proofs.Tryz.f180,Go.Proofs.Tryz.func180,rfl,rfl,rfl,by kernel_rfl⟩
theorem GI:a7 Go.Proofs.Tryz.prog 181 GW:=⟨Go.Proofs.Tryz.f181,Go.Proofs.Tryz.func181,rfl,rfl,rfl,by kernel_rfl⟩
theorem GX:a7 Go.Proofs.Tryz.prog 187 Kr:=⟨Go.Proofs.Tryz.f187,Go.Proofs.Tryz.func187,rfl,rfl,rfl,by kernel_rfl⟩
theorem FV:a7 Go.Proofs.Tryz.prog 192 FI:=⟨Go.Proofs.Tryz.f192,Go.Proofs.Tryz.func192,rfl,rfl,rfl,by kernel_rfl⟩
theorem D1:a7 Go.Proofs.Tryz.prog 198 Jg:=⟨Go.Proofs.Tryz.f198,Go.Proofs.Tryz.func198,rfl,rfl,rfl,by kernel_rfl⟩
theorem LI:Ei (a7 Go.Proofs.Tryz.prog) OT:=⟨K5,Ip,IL,HE,IT,H8,Ik,Hz,Iz,IV,IG,I4,Iq,IB,Hj,IS,HW,HQ,IY,HF,Jf,Hn,IX,G8,HO,Ic,I0,Jd,I1,Hg,IJ,HH,Iy,HV,Is,IC,H9,It,IK,IP,HK,HY,HN,IU,IR,Hk,Iw,Hv,Ir,IZ,Ja,H3,Hl,I9,ID,Ix,Hh,Hy,Hm,E8,EY,FH,FR,Et,Gj,Ea,FK,Gu,GB,EP,EU,EV,EL,FZ,F6,Eb,GK,Eo,EN,Eu,F3,EM,EQ,Gq,FO,D8,D9,D2,F7,ED,EH,FW,En,DY,GN,F4,E1,GO,Ge,GP,Fj,Gt,E9,Fp,Gv,FU,EI,D3,GH,E7,EW,EK,GM,GI,GX,FV,D1,trivial⟩
theorem mixed:(Go.Proofs.Tryz.prog).follows .mixedOrders=true:=by kernel_rfl
theorem Lx (f:FuncId)(args:List lZ)(r:(rW f).den)(h:G1 f args=some r):iv Go.Proofs.Tryz.prog ab rW f args r:=by
 unfold G1 at h
 by_cases e105:f=105
 ·subst e105
  rw [dif_pos rfl] at h
  exact HG (by kernel_rfl) ⟨Go.Proofs.Tryz.f105,Go.Proofs.Tryz.func105,rfl,by kernel_rfl⟩ Go.Proofs.Tryz.strconv_Atoi_ok Go.Proofs.Tryz.strconv_Atoi_syntax_var Go.Proofs.Tryz.strconv_Atoi_range_var (fun _ h=>h.1) (fun _ h=>h.2.1) h HEq.rfl
 rw [dif_neg e105] at h
 by_cases e159:f=159
 ·subst e159
  rw [dif_pos rfl] at h
  exact HZ (by kernel_rfl) ⟨Go.Proofs.Tryz.f159,Go.Proofs.Tryz.func159,rfl,by kernel_rfl⟩ Go.Proofs.Tryz.strconv_Itoa (fun _ h=>h.2.2.1) h HEq.rfl
 rw [dif_neg e159] at h
 by_cases e193:f=193
 ·subst e193
  rw [dif_pos rfl] at h
  exact KX (by kernel_rfl) ⟨Go.Proofs.Tryz.f193,Go.Proofs.Tryz.func193,rfl,by kernel_rfl⟩ Go.Proofs.Tryz.strings_Cut (fun _ h=>Gp Fh h.2.2.2) h HEq.rfl
 rw [dif_neg e193] at h
 cases h
theorem LD (f:Nat):(E aF).pks f=match look f N9 with|some l=>l|none=>[]:=by
 show ES f=_
 unfold ES
 cases look f N9<;>rfl
theorem KE:uC 55 59 91 5 N9=true:=by kernel_rfl
theorem EE:Gf Go.Proofs.Tryz.prog 55 91 (ab (.int .u8)):=D6 Go.Proofs.Tryz.laysB166 Go.Proofs.Tryz.Builder_Extra_B ⟨Go.Proofs.Tryz.f55,Go.Proofs.Tryz.func55,rfl,by kernel_rfl⟩
theorem C3:FC Go.Proofs.Tryz.prog 59 91 5:=DO Go.Proofs.Tryz.laysB169 Go.Proofs.Tryz.Builder_Extra_B ⟨Go.Proofs.Tryz.f59,Go.Proofs.Tryz.func59,rfl,by kernel_rfl⟩
theorem LJ:wU Go.Proofs.Tryz.prog ab (E aF):=wU.bld (fun T i h=>(s8 KI).look T i h) (pks:=N9) LD KE EE C3 rfl
theorem lv_ok (k:Nat):ki Go.Proofs.Tryz.prog ab rW (cG (E aF) k):=
 K1 (E:=E aF) LJ (fun _ _=>rfl) (fun f fi h=>LI.look f fi h) (fun f args r _ h=>Lx f args r h) mixed k
end Go.Proofs.YtjkokaockhecnaaGreatDoorA
