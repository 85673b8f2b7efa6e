/- The program is what the machine is told of it, so that what the machine answers of a call is what the program answers; no condition. -/
import Derived.Test.YtjkokaockhecnaaGreatDoorExt3
import Derived.Test.YtjkokaockhecnaaGreatDoorBld4
import Derived.Test.YtjkokaockhecnaaGreatDoorShelf
import Derived.Test.YtjkokaockhecnaaGreatDoorEnv
namespace Go.Proofs.YtjkokaockhecnaaGreatDoorA
open Go
set_option linter.unusedVariables false
def OQ (t:El):Nat:=
 match t with
 |.int .i64=>3
 |.bool=>4
 |.int .u8=>5
 |.str=>9
 |.list .str=>23
 |.arr=>27
 |.node=>58
 |_=>0
def Tabs (w:World):Prop:=SentIs Go.Proofs.Tryz.prog w "strconv.ErrSyntax" ∧SentIs Go.Proofs.Tryz.prog w "strconv.ErrRange" ∧Lib.TabIs Go.Proofs.Tryz.prog w "internal/strconv.uint64pow10" .u64 Lib.pow10Tab∧IntIs Go.Proofs.Tryz.prog w "internal/bytealg.MaxLen"
theorem K9:(Go.Proofs.Tryz.prog).globalNamed "strconv.ErrSyntax" =some 0:=by kernel_rfl
theorem Lj:(Go.Proofs.Tryz.prog).globalNamed "strconv.ErrRange" =some 1:=by kernel_rfl
theorem Le:(Go.Proofs.Tryz.prog).globalNamed "internal/strconv.uint64pow10" =some 2:=by kernel_rfl
theorem H3:(Go.Proofs.Tryz.prog).globalNamed "internal/bytealg.MaxLen" =some 3:=by kernel_rfl
def ab:b9:=⟨OQ,[0,1,2,3],Tabs,fun w w' q h=>⟨sV K9 (q 0 (by decide)) h.1,sV Lj (q 1 (by decide)) h.2.1,BF Le (q 2 (by decide)) h.2.2.1,Cb H3 (q 3 (by decide)) h.2.2.2⟩⟩
theorem tabs_ok {W:World}(h:Tabs W):kG ab W ⟨fun _ _=>.imm,fun _ _=>.slice none 0 0,fun _=>(0,0)⟩:=by
 refine ⟨h,fun b hb=>⟨?_,fun _=>rfl⟩⟩
 have hb':b∈[0,1,2,3]:=hb
 simp only [List.mem_cons,List.not_mem_nil,or_false] at hb'
 rcases hb' with e|e|e|e
 ·rw [e];exact DG K9 h.1
 ·rw [e];exact DG Lj h.2.1
 ·rw [e];exact L8 Le h.2.2.1
 ·rw [e];exact L9 H3 h.2.2.2
theorem Nw:Dt Go.Proofs.Tryz.prog ab QO=true:=by kernel_rfl
theorem LZ:aX Go.Proofs.Tryz.prog 4 QL:=⟨Go.Proofs.Tryz.f4,Go.Proofs.Tryz.func4,rfl,rfl,rfl,by kernel_rfl⟩
theorem KA:aX Go.Proofs.Tryz.prog 10 PY:=⟨Go.Proofs.Tryz.f10,Go.Proofs.Tryz.func10,rfl,rfl,rfl,by kernel_rfl⟩
theorem IZ:aX Go.Proofs.Tryz.prog 16 NV:=⟨Go.Proofs.Tryz.f16,Go.Proofs.Tryz.func16,rfl,rfl,rfl,by kernel_rfl⟩
theorem J3:aX Go.Proofs.Tryz.prog 17 Nr:=⟨Go.Proofs.Tryz.f17,Go.Proofs.Tryz.func17,rfl,rfl,rfl,by kernel_rfl⟩
theorem Jv:aX Go.Proofs.Tryz.prog 20 Pv:=⟨Go.Proofs.Tryz.f20,Go.Proofs.Tryz.func20,rfl,rfl,rfl,by kernel_rfl⟩
theorem KB:aX Go.Proofs.Tryz.prog 21 Ob:=⟨Go.Proofs.Tryz.f21,Go.Proofs.Tryz.func21,rfl,rfl,rfl,by kernel_rfl⟩
theorem KD:aX Go.Proofs.Tryz.prog 22 Jn:=⟨Go.Proofs.Tryz.f22,Go.Proofs.Tryz.func22,rfl,rfl,rfl,by kernel_rfl⟩
theorem Io:aX Go.Proofs.Tryz.prog 23 NG:=⟨Go.Proofs.Tryz.f23,Go.Proofs.Tryz.func23,rfl,rfl,rfl,by kernel_rfl⟩
theorem Jj:aX Go.Proofs.Tryz.prog 24 MV:=⟨Go.Proofs.Tryz.f24,Go.Proofs.Tryz.func24,rfl,rfl,rfl,by kernel_rfl⟩
theorem IX:aX Go.Proofs.Tryz.prog 25 L2:=⟨Go.Proofs.Tryz.f25,Go.Proofs.Tryz.func25,rfl,rfl,rfl,by kernel_rfl⟩
theorem JZ:aX Go.Proofs.Tryz.prog 26 Px:=⟨Go.Proofs.Tryz.f26,Go.Proofs.Tryz.func26,rfl,rfl,rfl,by kernel_rfl⟩
theorem Ks:aX Go.Proofs.Tryz.prog 27 OB:=⟨Go.Proofs.Tryz.f27,Go.Proofs.Tryz.func27,rfl,rfl,rfl,by kernel_rfl⟩
theorem IC:aX Go.Proofs.Tryz.prog 28 O8:=⟨Go.Proofs.Tryz.f28,Go.Proofs.Tryz.func28,rfl,rfl,rfl,by kernel_rfl⟩
theorem JD:aX Go.Proofs.Tryz.prog 29 OK:=⟨Go.Proofs.Tryz.f29,Go.Proofs.Tryz.func29,rfl,rfl,rfl,by kernel_rfl⟩
theorem Jt:aX Go.Proofs.Tryz.prog 30 JF:=⟨Go.Proofs.Tryz.f30,Go.Proofs.Tryz.func30,rfl,rfl,rfl,by kernel_rfl⟩
theorem JB:aX Go.Proofs.Tryz.prog 31 OY:=⟨Go.Proofs.Tryz.f31,Go.Proofs.Tryz.func31,rfl,rfl,rfl,by kernel_rfl⟩
theorem Jm:aX Go.Proofs.Tryz.prog 32 J0:=⟨Go.Proofs.Tryz.f32,Go.Proofs.Tryz.func32,rfl,rfl,rfl,by kernel_rfl⟩
theorem Ja:aX Go.Proofs.Tryz.prog 33 N2:=⟨Go.Proofs.Tryz.f33,Go.Proofs.Tryz.func33,rfl,rfl,rfl,by kernel_rfl⟩
theorem IU:aX Go.Proofs.Tryz.prog 34 Me:=⟨Go.Proofs.Tryz.f34,Go.Proofs.Tryz.func34,rfl,rfl,rfl,by kernel_rfl⟩
theorem I1:aX Go.Proofs.Tryz.prog 35 JG:=⟨Go.Proofs.Tryz.f35,Go.Proofs.Tryz.func35,rfl,rfl,rfl,by kernel_rfl⟩
theorem JC:aX Go.Proofs.Tryz.prog 36 L0:=⟨Go.Proofs.Tryz.f36,Go.Proofs.Tryz.func36,rfl,rfl,rfl,by kernel_rfl⟩
theorem JL:aX Go.Proofs.Tryz.prog 37 NI:=⟨Go.Proofs.Tryz.f37,Go.Proofs.Tryz.func37,rfl,rfl,rfl,by kernel_rfl⟩
theorem Iw:aX Go.Proofs.Tryz.prog 38 MU:=⟨Go.Proofs.Tryz.f38,Go.Proofs.Tryz.func38,rfl,rfl,rfl,by kernel_rfl⟩
theorem Iy:aX Go.Proofs.Tryz.prog 39 MG:=⟨Go.Proofs.Tryz.f39,Go.Proofs.Tryz.func39,rfl,rfl,rfl,by kernel_rfl⟩
theorem Ii:aX Go.Proofs.Tryz.prog 40 Oq:=⟨Go.Proofs.Tryz.f40,Go.Proofs.Tryz.func40,rfl,rfl,rfl,by kernel_rfl⟩
theorem Ip:aX Go.Proofs.Tryz.prog 41 OG:=⟨Go.Proofs.Tryz.f41,Go.Proofs.Tryz.func41,rfl,rfl,rfl,by kernel_rfl⟩
theorem Kp:aX Go.Proofs.Tryz.prog 46 Ni:=⟨Go.Proofs.Tryz.f46,Go.Proofs.Tryz.func46,rfl,rfl,rfl,by kernel_rfl⟩
theorem IR:aX Go.Proofs.Tryz.prog 47 Oy:=⟨Go.Proofs.Tryz.f47,Go.Proofs.Tryz.func47,rfl,rfl,rfl,by kernel_rfl⟩
theorem Ij:aX Go.Proofs.Tryz.prog 48 Nk:=⟨Go.Proofs.Tryz.f48,Go.Proofs.Tryz.func48,rfl,rfl,rfl,by kernel_rfl⟩
theorem Iz:aX Go.Proofs.Tryz.prog 49 EQ:=⟨Go.Proofs.Tryz.f49,Go.Proofs.Tryz.func49,rfl,rfl,rfl,by kernel_rfl⟩
theorem IT:aX Go.Proofs.Tryz.prog 52 Nn:=⟨Go.Proofs.Tryz.f52,Go.Proofs.Tryz.func52,rfl,rfl,rfl,by kernel_rfl⟩
theorem IM:aX Go.Proofs.Tryz.prog 53 Na:=⟨Go.Proofs.Tryz.f53,Go.Proofs.Tryz.func53,rfl,rfl,rfl,by kernel_rfl⟩
theorem Js:aX Go.Proofs.Tryz.prog 54 N3:=⟨Go.Proofs.Tryz.f54,Go.Proofs.Tryz.func54,rfl,rfl,rfl,by kernel_rfl⟩
theorem IV:aX Go.Proofs.Tryz.prog 56 Ou:=⟨Go.Proofs.Tryz.f56,Go.Proofs.Tryz.func56,rfl,rfl,rfl,by kernel_rfl⟩
theorem JX:aX Go.Proofs.Tryz.prog 57 OD:=⟨Go.Proofs.Tryz.f57,Go.Proofs.Tryz.func57,rfl,rfl,rfl,by kernel_rfl⟩
theorem Kv:aX Go.Proofs.Tryz.prog 58 J2:=⟨Go.Proofs.Tryz.f58,Go.Proofs.Tryz.func58,rfl,rfl,rfl,by kernel_rfl⟩
theorem Kz:aX Go.Proofs.Tryz.prog 60 Ju:=⟨Go.Proofs.Tryz.f60,Go.Proofs.Tryz.func60,rfl,rfl,rfl,by kernel_rfl⟩
theorem Jr:aX Go.Proofs.Tryz.prog 61 Fo:=⟨Go.Proofs.Tryz.f61,Go.Proofs.Tryz.func61,rfl,rfl,rfl,by kernel_rfl⟩
theorem IE:aX Go.Proofs.Tryz.prog 62 OZ:=⟨Go.Proofs.Tryz.f62,Go.Proofs.Tryz.func62,rfl,rfl,rfl,by kernel_rfl⟩
theorem IO:aX Go.Proofs.Tryz.prog 63 OL:=⟨Go.Proofs.Tryz.f63,Go.Proofs.Tryz.func63,rfl,rfl,rfl,by kernel_rfl⟩
theorem JO:aX Go.Proofs.Tryz.prog 64 PH:=⟨Go.Proofs.Tryz.f64,Go.Proofs.Tryz.func64,rfl,rfl,rfl,by kernel_rfl⟩
theorem If:aX Go.Proofs.Tryz.prog 65 M1:=⟨Go.Proofs.Tryz.f65,Go.Proofs.Tryz.func65,rfl,rfl,rfl,by kernel_rfl⟩
theorem JM:aX Go.Proofs.Tryz.prog 66 PU:=⟨Go.Proofs.Tryz.f66,Go.Proofs.Tryz.func66,rfl,rfl,rfl,by kernel_rfl⟩
theorem Jo:aX Go.Proofs.Tryz.prog 67 IF:=⟨Go.Proofs.Tryz.f67,Go.Proofs.Tryz.func67,rfl,rfl,rfl,by kernel_rfl⟩
theorem Jh:aX Go.Proofs.Tryz.prog 68 OA:=⟨Go.Proofs.Tryz.f68,Go.Proofs.Tryz.func68,rfl,rfl,rfl,by kernel_rfl⟩
theorem Kx:aX Go.Proofs.Tryz.prog 69 Oc:=⟨Go.Proofs.Tryz.f69,Go.Proofs.Tryz.func69,rfl,rfl,rfl,by kernel_rfl⟩
theorem I3:aX Go.Proofs.Tryz.prog 70 MB:=⟨Go.Proofs.Tryz.f70,Go.Proofs.Tryz.func70,rfl,rfl,rfl,by kernel_rfl⟩
theorem J8:aX Go.Proofs.Tryz.prog 71 PR:=⟨Go.Proofs.Tryz.f71,Go.Proofs.Tryz.func71,rfl,rfl,rfl,by kernel_rfl⟩
theorem JR:aX Go.Proofs.Tryz.prog 72 NQ:=⟨Go.Proofs.Tryz.f72,Go.Proofs.Tryz.func72,rfl,rfl,rfl,by kernel_rfl⟩
theorem Jy:aX Go.Proofs.Tryz.prog 73 PP:=⟨Go.Proofs.Tryz.f73,Go.Proofs.Tryz.func73,rfl,rfl,rfl,by kernel_rfl⟩
theorem JH:aX Go.Proofs.Tryz.prog 74 Bi:=⟨Go.Proofs.Tryz.f74,Go.Proofs.Tryz.func74,rfl,rfl,rfl,by kernel_rfl⟩
theorem Jg:aX Go.Proofs.Tryz.prog 75 Gg:=⟨Go.Proofs.Tryz.f75,Go.Proofs.Tryz.func75,rfl,rfl,rfl,by kernel_rfl⟩
theorem I9:aX Go.Proofs.Tryz.prog 76 M4:=⟨Go.Proofs.Tryz.f76,Go.Proofs.Tryz.func76,rfl,rfl,rfl,by kernel_rfl⟩
theorem J5:aX Go.Proofs.Tryz.prog 77 Mc:=⟨Go.Proofs.Tryz.f77,Go.Proofs.Tryz.func77,rfl,rfl,rfl,by kernel_rfl⟩
theorem IQ:aX Go.Proofs.Tryz.prog 78 MZ:=⟨Go.Proofs.Tryz.f78,Go.Proofs.Tryz.func78,rfl,rfl,rfl,by kernel_rfl⟩
theorem Ih:aX Go.Proofs.Tryz.prog 79 PN:=⟨Go.Proofs.Tryz.f79,Go.Proofs.Tryz.func79,rfl,rfl,rfl,by kernel_rfl⟩
theorem Jd:aX Go.Proofs.Tryz.prog 80 JY:=⟨Go.Proofs.Tryz.f80,Go.Proofs.Tryz.func80,rfl,rfl,rfl,by kernel_rfl⟩
theorem Kt:aX Go.Proofs.Tryz.prog 81 OX:=⟨Go.Proofs.Tryz.f81,Go.Proofs.Tryz.func81,rfl,rfl,rfl,by kernel_rfl⟩
theorem It:aX Go.Proofs.Tryz.prog 86 KC:=⟨Go.Proofs.Tryz.f86,Go.Proofs.Tryz.func86,rfl,rfl,rfl,by kernel_rfl⟩
theorem I7:aX Go.Proofs.Tryz.prog 87 JK:=⟨Go.Proofs.Tryz.f87,Go.Proofs.Tryz.func87,rfl,rfl,rfl,by kernel_rfl⟩
theorem JU:aX Go.Proofs.Tryz.prog 88 OI:=⟨Go.Proofs.Tryz.f88,Go.Proofs.Tryz.func88,rfl,rfl,rfl,by kernel_rfl⟩
theorem J7:aX Go.Proofs.Tryz.prog 89 O7:=⟨Go.Proofs.Tryz.f89,Go.Proofs.Tryz.func89,rfl,rfl,rfl,by kernel_rfl⟩
theorem J4:aX Go.Proofs.Tryz.prog 90 Md:=⟨Go.Proofs.Tryz.f90,Go.Proofs.Tryz.func90,rfl,rfl,rfl,by kernel_rfl⟩
theorem Kr:aX Go.Proofs.Tryz.prog 91 MS:=⟨Go.Proofs.Tryz.f91,Go.Proofs.Tryz.func91,rfl,rfl,rfl,by kernel_rfl⟩
theorem Kq:aX Go.Proofs.Tryz.prog 92 OO:=⟨Go.Proofs.Tryz.f92,Go.Proofs.Tryz.func92,rfl,rfl,rfl,by kernel_rfl⟩
theorem JP:aX Go.Proofs.Tryz.prog 93 OE:=⟨Go.Proofs.Tryz.f93,Go.Proofs.Tryz.func93,rfl,rfl,rfl,by kernel_rfl⟩
theorem I6:aX Go.Proofs.Tryz.prog 94 LW:=⟨Go.Proofs.Tryz.f94,Go.Proofs.Tryz.func94,rfl,rfl,rfl,by kernel_rfl⟩
theorem Ig:aX Go.Proofs.Tryz.prog 97 MX:=⟨Go.Proofs.Tryz.f97,Go.Proofs.Tryz.func97,rfl,rfl,rfl,by kernel_rfl⟩
theorem J1:aX Go.Proofs.Tryz.prog 98 PG:=⟨Go.Proofs.Tryz.f98,Go.Proofs.Tryz.func98,rfl,rfl,rfl,by kernel_rfl⟩
theorem IL:aX Go.Proofs.Tryz.prog 99 ND:=⟨Go.Proofs.Tryz.f99,Go.Proofs.Tryz.func99,rfl,rfl,rfl,by kernel_rfl⟩
theorem HO:aX Go.Proofs.Tryz.prog 100 LG:=⟨Go.Proofs.Tryz.f100,Go.Proofs.Tryz.func100,rfl,rfl,rfl,by kernel_rfl⟩
theorem GF:aX Go.Proofs.Tryz.prog 101 HH:=⟨Go.Proofs.Tryz.f101,Go.Proofs.Tryz.func101,rfl,rfl,rfl,by kernel_rfl⟩
theorem HW:aX Go.Proofs.Tryz.prog 102 FC:=⟨Go.Proofs.Tryz.f102,Go.Proofs.Tryz.func102,rfl,rfl,rfl,by kernel_rfl⟩
theorem H2:aX Go.Proofs.Tryz.prog 104 KU:=⟨Go.Proofs.Tryz.f104,Go.Proofs.Tryz.func104,rfl,rfl,rfl,by kernel_rfl⟩
theorem GI:aX Go.Proofs.Tryz.prog 106 HB:=⟨Go.Proofs.Tryz.f106,Go.Proofs.Tryz.func106,rfl,rfl,rfl,by kernel_rfl⟩
theorem E5:aX Go.Proofs.Tryz.prog 107 GK:=⟨Go.Proofs.Tryz.f107,Go.Proofs.Tryz.func107,rfl,rfl,rfl,by kernel_rfl⟩
theorem FS:aX Go.Proofs.Tryz.prog 108 KI:=⟨Go.Proofs.Tryz.f108,Go.Proofs.Tryz.func108,rfl,rfl,rfl,by kernel_rfl⟩
theorem FZ:aX Go.Proofs.Tryz.prog 109 Dl:=⟨Go.Proofs.Tryz.f109,Go.Proofs.Tryz.func109,rfl,rfl,rfl,by kernel_rfl⟩
theorem FO:aX Go.Proofs.Tryz.prog 110 KN:=⟨Go.Proofs.Tryz.f110,Go.Proofs.Tryz.func110,rfl,rfl,rfl,by kernel_rfl⟩
theorem E4:aX Go.Proofs.Tryz.prog 111 KH:=⟨Go.Proofs.Tryz.f111,Go.Proofs.Tryz.func111,rfl,rfl,rfl,by kernel_rfl⟩
theorem Ge:aX Go.Proofs.Tryz.prog 112 LU:=⟨Go.Proofs.Tryz.f112,Go.Proofs.Tryz.func112,rfl,rfl,rfl,by kernel_rfl⟩
theorem F4:aX Go.Proofs.Tryz.prog 113 H7:=⟨Go.Proofs.Tryz.f113,Go.Proofs.Tryz.func113,rfl,rfl,rfl,by kernel_rfl⟩
theorem E8:aX Go.Proofs.Tryz.prog 114 K0:=⟨Go.Proofs.Tryz.f114,Go.Proofs.Tryz.func114,rfl,rfl,rfl,by kernel_rfl⟩
theorem Fv:aX Go.Proofs.Tryz.prog 115 Dy:=⟨Go.Proofs.Tryz.f115,Go.Proofs.Tryz.func115,rfl,rfl,rfl,by kernel_rfl⟩
theorem FG:aX Go.Proofs.Tryz.prog 117 Ll:=⟨Go.Proofs.Tryz.f117,Go.Proofs.Tryz.func117,rfl,rfl,rfl,by kernel_rfl⟩
theorem FN:aX Go.Proofs.Tryz.prog 118 LH:=⟨Go.Proofs.Tryz.f118,Go.Proofs.Tryz.func118,rfl,rfl,rfl,by kernel_rfl⟩
theorem Hk:aX Go.Proofs.Tryz.prog 119 LA:=⟨Go.Proofs.Tryz.f119,Go.Proofs.Tryz.func119,rfl,rfl,rfl,by kernel_rfl⟩
theorem E7:aX Go.Proofs.Tryz.prog 120 LD:=⟨Go.Proofs.Tryz.f120,Go.Proofs.Tryz.func120,rfl,rfl,rfl,by kernel_rfl⟩
theorem Hn:aX Go.Proofs.Tryz.prog 121 KO:=⟨Go.Proofs.Tryz.f121,Go.Proofs.Tryz.func121,rfl,rfl,rfl,by kernel_rfl⟩
theorem Fg:aX Go.Proofs.Tryz.prog 122 Fb:=⟨Go.Proofs.Tryz.f122,Go.Proofs.Tryz.func122,rfl,rfl,rfl,by kernel_rfl⟩
theorem Ho:aX Go.Proofs.Tryz.prog 123 K7:=⟨Go.Proofs.Tryz.f123,Go.Proofs.Tryz.func123,rfl,rfl,rfl,by kernel_rfl⟩
theorem Hf:aX Go.Proofs.Tryz.prog 124 Hg:=⟨Go.Proofs.Tryz.f124,Go.Proofs.Tryz.func124,rfl,rfl,rfl,by kernel_rfl⟩
theorem Gf:aX Go.Proofs.Tryz.prog 125 KY:=⟨Go.Proofs.Tryz.f125,Go.Proofs.Tryz.func125,rfl,rfl,rfl,by kernel_rfl⟩
theorem Gj:aX Go.Proofs.Tryz.prog 126 KT:=⟨Go.Proofs.Tryz.f126,Go.Proofs.Tryz.func126,rfl,rfl,rfl,by kernel_rfl⟩
theorem HN:aX Go.Proofs.Tryz.prog 127 LF:=⟨Go.Proofs.Tryz.f127,Go.Proofs.Tryz.func127,rfl,rfl,rfl,by kernel_rfl⟩
theorem GZ:aX Go.Proofs.Tryz.prog 128 Ly:=⟨Go.Proofs.Tryz.f128,Go.Proofs.Tryz.func128,rfl,rfl,rfl,by kernel_rfl⟩
theorem Gy:aX Go.Proofs.Tryz.prog 129 Ia:=⟨Go.Proofs.Tryz.f129,Go.Proofs.Tryz.func129,rfl,rfl,rfl,by kernel_rfl⟩
theorem G7:aX Go.Proofs.Tryz.prog 133 FX:=⟨Go.Proofs.Tryz.f133,Go.Proofs.Tryz.func133,rfl,rfl,rfl,by kernel_rfl⟩
theorem F5:aX Go.Proofs.Tryz.prog 134 Fa:=⟨Go.Proofs.Tryz.f134,Go.Proofs.Tryz.func134,rfl,rfl,rfl,by kernel_rfl⟩
theorem Gs:aX Go.Proofs.Tryz.prog 135 KX:=⟨Go.Proofs.Tryz.f135,Go.Proofs.Tryz.func135,rfl,rfl,rfl,by kernel_rfl⟩
theorem HT:aX Go.Proofs.Tryz.prog 141 KR:=⟨Go.Proofs.Tryz.f141,Go.Proofs.Tryz.func141,rfl,rfl,rfl,by kernel_rfl⟩
theorem H4:aX Go.Proofs.Tryz.prog 142 Ln:=⟨Go.Proofs.Tryz.f142,Go.Proofs.Tryz.func142,rfl,rfl,rfl,by kernel_rfl⟩
theorem FV:aX Go.Proofs.Tryz.prog 143 LM:=⟨Go.Proofs.Tryz.f143,Go.Proofs.Tryz.func143,rfl,rfl,rfl,by kernel_rfl⟩
theorem Gx:aX Go.Proofs.Tryz.prog 144 Db:=⟨Go.Proofs.Tryz.f144,Go.Proofs.Tryz.func144,rfl,rfl,rfl,by kernel_rfl⟩
theorem HI:aX Go.Proofs.Tryz.prog 145 Lc:=⟨Go.Proofs.Tryz.f145,Go.Proofs.Tryz.func145,rfl,rfl,rfl,by kernel_rfl⟩
theorem GM:aX Go.Proofs.Tryz.prog 146 Gu:=⟨Go.Proofs.Tryz.f146,Go.Proofs.Tryz.func146,rfl,rfl,rfl,by kernel_rfl⟩
theorem FQ:aX Go.Proofs.Tryz.prog 147 Hj:=⟨Go.Proofs.Tryz.f147,Go.Proofs.Tryz.func147,rfl,rfl,rfl,by kernel_rfl⟩
theorem GP:aX Go.Proofs.Tryz.prog 148 K6:=⟨Go.Proofs.Tryz.f148,Go.Proofs.Tryz.func148,rfl,rfl,rfl,by kernel_rfl⟩
theorem Gi:aX Go.Proofs.Tryz.prog 149 E6:=⟨Go.Proofs.Tryz.f149,Go.Proofs.Tryz.func149,rfl,rfl,rfl,by kernel_rfl⟩
theorem Gn:aX Go.Proofs.Tryz.prog 150 Dz:=⟨Go.Proofs.Tryz.f150,Go.Proofs.Tryz.func150,rfl,rfl,rfl,by kernel_rfl⟩
theorem GL:aX Go.Proofs.Tryz.prog 152 KJ:=⟨Go.Proofs.Tryz.f152,Go.Proofs.Tryz.func152,rfl,rfl,rfl,by kernel_rfl⟩
theorem FB:aX Go.Proofs.Tryz.prog 155 Lm:=⟨Go.Proofs.Tryz.f155,Go.Proofs.Tryz.func155,rfl,rfl,rfl,by kernel_rfl⟩
theorem Gt:aX Go.Proofs.Tryz.prog 156 KL:=⟨Go.Proofs.Tryz.f156,Go.Proofs.Tryz.func156,rfl,rfl,rfl,by kernel_rfl⟩
theorem HF:aX Go.Proofs.Tryz.prog 157 zJ:=⟨Go.Proofs.Tryz.f157,Go.Proofs.Tryz.func157,rfl,rfl,rfl,by kernel_rfl⟩
theorem FY:aX Go.Proofs.Tryz.prog 158 LP:=⟨Go.Proofs.Tryz.f158,Go.Proofs.Tryz.func158,rfl,rfl,rfl,by kernel_rfl⟩
theorem HZ:aX Go.Proofs.Tryz.prog 172 Ft:=⟨Go.Proofs.Tryz.f172,Go.Proofs.Tryz.func172,rfl,rfl,rfl,by kernel_rfl⟩
theorem GU:aX Go.Proofs.Tryz.prog 173 Lx:=⟨Go.Proofs.Tryz.f173,Go.Proofs.Tryz.func173,rfl,rfl,rfl,by kernel_rfl⟩
theorem H5:aX Go.Proofs.Tryz.prog 174 Lq:=⟨Go.Proofs.Tryz.f174,Go.Proofs.Tryz.func174,rfl,rfl,rfl,by kernel_rfl⟩
theorem H8:aX Go.Proofs.Tryz.prog 175 KV:=⟨Go.Proofs.Tryz.f175,Go.Proofs.Tryz.func175,rfl,rfl,rfl,by kernel_rfl⟩
theorem Ff:aX Go.Proofs.Tryz.prog 176 Ha:=⟨Go.Proofs.Tryz.f176,Go.Proofs.Tryz.func176,rfl,rfl,rfl,by kernel_rfl⟩
theorem G4:aX Go.Proofs.Tryz.prog 177 LS:=⟨Go.Proofs.Tryz.f177,Go.Proofs.Tryz.func177,rfl,rfl,rfl,by kernel_rfl⟩
theorem Fh:aX Go.Proofs.Tryz.prog 178 K5:=⟨Go.Proofs.Tryz.f178,Go.Proofs.Tryz.func178,rfl,rfl,rfl,by kernel_rfl⟩
theorem GB:aX Go.Proofs.Tryz.prog 179 Lo:=⟨Go.Proofs.Tryz.f179,Go.Proofs.Tryz.func179,rfl,rfl,rfl,by kernel_rfl⟩
theorem Hy:aX Go.Proofs.Tryz.prog 180 Lp:=⟨Go.Proofs.Tryz.f180,Go.Proofs.Tryz.func180,rfl,rfl,rfl,by kernel_rfl⟩
theorem HL:aX Go.Proofs.Tryz.prog 181 HJ:=⟨Go.Proofs.Tryz.f181,Go.Proofs.Tryz.func181,rfl,rfl,rfl,by kernel_rfl⟩
theorem Hi:aX Go.Proofs.Tryz.prog 187 K8:=⟨Go.Proofs.Tryz.f187,Go.Proofs.Tryz.func187,rfl,rfl,rfl,by kernel_rfl⟩
theorem HA:aX Go.Proofs.Tryz.prog 192 FD:=⟨Go.Proofs.Tryz.f192,Go.Proofs.Tryz.func192,rfl,rfl,rfl,by kernel_rfl⟩
theorem Fq:aX Go.Proofs.Tryz.prog 198 LJ:=⟨Go.Proofs.Tryz.f198,Go.Proofs.Tryz.func198,rfl,rfl,rfl,by kernel_rfl⟩
theorem L6:F8 (aX Go.Proofs.Tryz.prog) QP:=⟨LZ,KA,IZ,J3,Jv,KB,KD,Io,Jj,IX,JZ,Ks,IC,JD,Jt,JB,Jm,Ja,IU,I1,JC,JL,Iw,Iy,Ii,Ip,Kp,IR,Ij,Iz,IT,IM,Js,IV,JX,Kv,Kz,Jr,IE,IO,JO,If,JM,Jo,Jh,Kx,I3,J8,JR,Jy,JH,Jg,I9,J5,IQ,Ih,Jd,Kt,It,I7,JU,J7,J4,Kr,Kq,JP,I6,Ig,J1,IL,HO,GF,HW,H2,GI,E5,FS,FZ,FO,E4,Ge,F4,E8,Fv,FG,FN,Hk,E7,Hn,Fg,Ho,Hf,Gf,Gj,HN,GZ,Gy,G7,F5,Gs,HT,H4,FV,Gx,HI,GM,FQ,GP,Gi,Gn,GL,FB,Gt,HF,FY,HZ,GU,H5,H8,Ff,G4,Fh,GB,Hy,HL,Hi,HA,Fq,trivial⟩
theorem mixed:(Go.Proofs.Tryz.prog).follows .mixedOrders=true:=by kernel_rfl
theorem MA (f:FuncId)(args:List nG)(r:(sr f).den)(h:Hh f args=some r):iN Go.Proofs.Tryz.prog ab sr f args r:=by
 unfold Hh at h
 by_cases e105:f=105
 ·subst e105
  rw [dif_pos rfl] at h
  exact JA (by kernel_rfl) ⟨Go.Proofs.Tryz.f105,Go.Proofs.Tryz.func105,rfl,by kernel_rfl⟩ Go.Proofs.Tryz.strconv_Atoi_ok Go.Proofs.Tryz.strconv_Atoi_syntax_var Go.Proofs.Tryz.strconv_Atoi_range_var (fun _ h=>h.1) (fun _ h=>h.2.1) h HEq.rfl
 rw [dif_neg e105] at h
 by_cases e159:f=159
 ·subst e159
  rw [dif_pos rfl] at h
  exact ID (by kernel_rfl) ⟨Go.Proofs.Tryz.f159,Go.Proofs.Tryz.func159,rfl,by kernel_rfl⟩ Go.Proofs.Tryz.strconv_Itoa (fun _ h=>h.2.2.1) h HEq.rfl
 rw [dif_neg e159] at h
 by_cases e193:f=193
 ·subst e193
  rw [dif_pos rfl] at h
  exact A4 (by kernel_rfl) ⟨Go.Proofs.Tryz.f193,Go.Proofs.Tryz.func193,rfl,by kernel_rfl⟩ Go.Proofs.Tryz.strings_Cut (fun _ h=>G5 H3 h.2.2.2) h HEq.rfl
 rw [dif_neg e193] at h
 cases h
theorem M7 (f:Nat):(E aG).pks f=match look f PV with|some l=>l|none=>[]:=by
 show FP f=_
 unfold FP
 cases look f PV<;>rfl
theorem NE:uj 55 59 91 5 PV=true:=by kernel_rfl
theorem GX:FA Go.Proofs.Tryz.prog 55 91 (ab (.int .u8)):=G0 Go.Proofs.Tryz.laysB166 Go.Proofs.Tryz.Builder_Extra_B ⟨Go.Proofs.Tryz.f55,Go.Proofs.Tryz.func55,rfl,by kernel_rfl⟩
theorem EW:GE Go.Proofs.Tryz.prog 59 91 5:=DK Go.Proofs.Tryz.laysB169 Go.Proofs.Tryz.Builder_Extra_B ⟨Go.Proofs.Tryz.f59,Go.Proofs.Tryz.func59,rfl,by kernel_rfl⟩
theorem NB:xO Go.Proofs.Tryz.prog ab (E aG):=xO.bld (fun T i h=>(vT Nw).look T i h) (pks:=PV) M7 NE GX EW rfl
theorem lv_ok (k:Nat):kO Go.Proofs.Tryz.prog ab sr (cK (E aG) k):=
 ME (E:=E aG) NB (fun _ _=>rfl) (fun f fi h=>L6.look f fi h) (fun f args r _ h=>MA f args r h) mixed k
end Go.Proofs.YtjkokaockhecnaaGreatDoorA
