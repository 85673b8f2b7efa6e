/- The program is what the machine is told of it, so that what the machine answers of a call is what the program answers; no condition. -/
import Derived.Test.YtjkokaockhecnaaGreatDoorExt3
import Derived.Test.YtjkokaockhecnaaGreatDoorShelf
import Derived.Test.YtjkokaockhecnaaGreatDoorEnv
namespace Go.Proofs.YtjkokaockhecnaaGreatDoorA
open Go
set_option linter.unusedVariables false
def Gs (t:El):Nat:=
 match t with
 |.int .i64=>3
 |.bool=>4
 |.int .u8=>5
 |.str=>9
 |.list .str=>23
 |.arr=>27
 |.node=>58
 |_=>0
def Tabs (w:World):Prop:=Lib.TabIs Go.Proofs.Tryz.prog w "internal/strconv.uint64pow10" .u64 Lib.pow10Tab
theorem D5:(Go.Proofs.Tryz.prog).globalNamed "internal/strconv.uint64pow10" =some 2:=by kernel_rfl
def aa:bb:=⟨Gs,[2],Tabs,fun w w' q h=>wO D5 (q 2 (by decide)) h⟩
theorem tabs_ok {W:World}(h:Tabs W):iI aa W ⟨fun _ _=>.imm,fun _ _=>.slice none 0 0,fun _=>(0,0)⟩:=by
 refine ⟨h,fun b hb=>⟨?_,fun _=>rfl⟩⟩
 have hb':b∈[2]:=hb
 simp only [List.mem_cons,List.not_mem_nil,or_false] at hb'
 rw [hb']
 exact E9 D5 h
theorem E5:yl Go.Proofs.Tryz.prog aa H2=true:=by kernel_rfl
theorem Fo:aY Go.Proofs.Tryz.prog 3 HJ:=⟨Go.Proofs.Tryz.f3,Go.Proofs.Tryz.func3,rfl,rfl,rfl,by kernel_rfl⟩
theorem BQ:aY Go.Proofs.Tryz.prog 15 FV:=⟨Go.Proofs.Tryz.f15,Go.Proofs.Tryz.func15,rfl,rfl,rfl,by kernel_rfl⟩
theorem Dt:aY Go.Proofs.Tryz.prog 16 GB:=⟨Go.Proofs.Tryz.f16,Go.Proofs.Tryz.func16,rfl,rfl,rfl,by kernel_rfl⟩
theorem Cm:aY Go.Proofs.Tryz.prog 17 E0:=⟨Go.Proofs.Tryz.f17,Go.Proofs.Tryz.func17,rfl,rfl,rfl,by kernel_rfl⟩
theorem C5:aY Go.Proofs.Tryz.prog 18 FK:=⟨Go.Proofs.Tryz.f18,Go.Proofs.Tryz.func18,rfl,rfl,rfl,by kernel_rfl⟩
theorem Dk:aY Go.Proofs.Tryz.prog 19 Hn:=⟨Go.Proofs.Tryz.f19,Go.Proofs.Tryz.func19,rfl,rfl,rfl,by kernel_rfl⟩
theorem CZ:aY Go.Proofs.Tryz.prog 20 Gq:=⟨Go.Proofs.Tryz.f20,Go.Proofs.Tryz.func20,rfl,rfl,rfl,by kernel_rfl⟩
theorem CU:aY Go.Proofs.Tryz.prog 31 GO:=⟨Go.Proofs.Tryz.f31,Go.Proofs.Tryz.func31,rfl,rfl,rfl,by kernel_rfl⟩
theorem CJ:aY Go.Proofs.Tryz.prog 42 GK:=⟨Go.Proofs.Tryz.f42,Go.Proofs.Tryz.func42,rfl,rfl,rfl,by kernel_rfl⟩
theorem CN:aY Go.Proofs.Tryz.prog 43 G8:=⟨Go.Proofs.Tryz.f43,Go.Proofs.Tryz.func43,rfl,rfl,rfl,by kernel_rfl⟩
theorem CQ:aY Go.Proofs.Tryz.prog 44 F8:=⟨Go.Proofs.Tryz.f44,Go.Proofs.Tryz.func44,rfl,rfl,rfl,by kernel_rfl⟩
theorem Dq:aY Go.Proofs.Tryz.prog 45 Hi:=⟨Go.Proofs.Tryz.f45,Go.Proofs.Tryz.func45,rfl,rfl,rfl,by kernel_rfl⟩
theorem CB:aY Go.Proofs.Tryz.prog 46 Ft:=⟨Go.Proofs.Tryz.f46,Go.Proofs.Tryz.func46,rfl,rfl,rfl,by kernel_rfl⟩
theorem Da:aY Go.Proofs.Tryz.prog 47 F9:=⟨Go.Proofs.Tryz.f47,Go.Proofs.Tryz.func47,rfl,rfl,rfl,by kernel_rfl⟩
theorem CO:aY Go.Proofs.Tryz.prog 48 EN:=⟨Go.Proofs.Tryz.f48,Go.Proofs.Tryz.func48,rfl,rfl,rfl,by kernel_rfl⟩
theorem BX:aY Go.Proofs.Tryz.prog 49 zg:=⟨Go.Proofs.Tryz.f49,Go.Proofs.Tryz.func49,rfl,rfl,rfl,by kernel_rfl⟩
theorem BZ:aY Go.Proofs.Tryz.prog 50 E7:=⟨Go.Proofs.Tryz.f50,Go.Proofs.Tryz.func50,rfl,rfl,rfl,by kernel_rfl⟩
theorem C6:aY Go.Proofs.Tryz.prog 51 EQ:=⟨Go.Proofs.Tryz.f51,Go.Proofs.Tryz.func51,rfl,rfl,rfl,by kernel_rfl⟩
theorem B0:aY Go.Proofs.Tryz.prog 65 EP:=⟨Go.Proofs.Tryz.f65,Go.Proofs.Tryz.func65,rfl,rfl,rfl,by kernel_rfl⟩
theorem B1:aY Go.Proofs.Tryz.prog 73 GF:=⟨Go.Proofs.Tryz.f73,Go.Proofs.Tryz.func73,rfl,rfl,rfl,by kernel_rfl⟩
theorem C7:aY Go.Proofs.Tryz.prog 78 EL:=⟨Go.Proofs.Tryz.f78,Go.Proofs.Tryz.func78,rfl,rfl,rfl,by kernel_rfl⟩
theorem Dm:aY Go.Proofs.Tryz.prog 82 G1:=⟨Go.Proofs.Tryz.f82,Go.Proofs.Tryz.func82,rfl,rfl,rfl,by kernel_rfl⟩
theorem CH:aY Go.Proofs.Tryz.prog 83 FR:=⟨Go.Proofs.Tryz.f83,Go.Proofs.Tryz.func83,rfl,rfl,rfl,by kernel_rfl⟩
theorem B5:aY Go.Proofs.Tryz.prog 84 FW:=⟨Go.Proofs.Tryz.f84,Go.Proofs.Tryz.func84,rfl,rfl,rfl,by kernel_rfl⟩
theorem Dc:aY Go.Proofs.Tryz.prog 85 GY:=⟨Go.Proofs.Tryz.f85,Go.Proofs.Tryz.func85,rfl,rfl,rfl,by kernel_rfl⟩
theorem CP:aY Go.Proofs.Tryz.prog 86 Cc:=⟨Go.Proofs.Tryz.f86,Go.Proofs.Tryz.func86,rfl,rfl,rfl,by kernel_rfl⟩
theorem BW:aY Go.Proofs.Tryz.prog 87 Db:=⟨Go.Proofs.Tryz.f87,Go.Proofs.Tryz.func87,rfl,rfl,rfl,by kernel_rfl⟩
theorem Di:aY Go.Proofs.Tryz.prog 88 FD:=⟨Go.Proofs.Tryz.f88,Go.Proofs.Tryz.func88,rfl,rfl,rfl,by kernel_rfl⟩
theorem CY:aY Go.Proofs.Tryz.prog 89 GW:=⟨Go.Proofs.Tryz.f89,Go.Proofs.Tryz.func89,rfl,rfl,rfl,by kernel_rfl⟩
theorem CW:aY Go.Proofs.Tryz.prog 90 Fh:=⟨Go.Proofs.Tryz.f90,Go.Proofs.Tryz.func90,rfl,rfl,rfl,by kernel_rfl⟩
theorem CC:aY Go.Proofs.Tryz.prog 91 EV:=⟨Go.Proofs.Tryz.f91,Go.Proofs.Tryz.func91,rfl,rfl,rfl,by kernel_rfl⟩
theorem B9:aY Go.Proofs.Tryz.prog 92 EW:=⟨Go.Proofs.Tryz.f92,Go.Proofs.Tryz.func92,rfl,rfl,rfl,by kernel_rfl⟩
theorem Cb:aY Go.Proofs.Tryz.prog 93 ES:=⟨Go.Proofs.Tryz.f93,Go.Proofs.Tryz.func93,rfl,rfl,rfl,by kernel_rfl⟩
theorem Df:aY Go.Proofs.Tryz.prog 94 ER:=⟨Go.Proofs.Tryz.f94,Go.Proofs.Tryz.func94,rfl,rfl,rfl,by kernel_rfl⟩
theorem C2:aY Go.Proofs.Tryz.prog 95 Hl:=⟨Go.Proofs.Tryz.f95,Go.Proofs.Tryz.func95,rfl,rfl,rfl,by kernel_rfl⟩
theorem C3:aY Go.Proofs.Tryz.prog 96 GZ:=⟨Go.Proofs.Tryz.f96,Go.Proofs.Tryz.func96,rfl,rfl,rfl,by kernel_rfl⟩
theorem CX:aY Go.Proofs.Tryz.prog 98 Gy:=⟨Go.Proofs.Tryz.f98,Go.Proofs.Tryz.func98,rfl,rfl,rfl,by kernel_rfl⟩
theorem Ae:aY Go.Proofs.Tryz.prog 100 DF:=⟨Go.Proofs.Tryz.f100,Go.Proofs.Tryz.func100,rfl,rfl,rfl,by kernel_rfl⟩
theorem zw:aY Go.Proofs.Tryz.prog 101 BH:=⟨Go.Proofs.Tryz.f101,Go.Proofs.Tryz.func101,rfl,rfl,rfl,by kernel_rfl⟩
theorem Bg:aY Go.Proofs.Tryz.prog 108 DD:=⟨Go.Proofs.Tryz.f108,Go.Proofs.Tryz.func108,rfl,rfl,rfl,by kernel_rfl⟩
theorem AI:aY Go.Proofs.Tryz.prog 111 Ez:=⟨Go.Proofs.Tryz.f111,Go.Proofs.Tryz.func111,rfl,rfl,rfl,by kernel_rfl⟩
theorem BO:aY Go.Proofs.Tryz.prog 112 Ey:=⟨Go.Proofs.Tryz.f112,Go.Proofs.Tryz.func112,rfl,rfl,rfl,by kernel_rfl⟩
theorem zE:aY Go.Proofs.Tryz.prog 118 D6:=⟨Go.Proofs.Tryz.f118,Go.Proofs.Tryz.func118,rfl,rfl,rfl,by kernel_rfl⟩
theorem A9:aY Go.Proofs.Tryz.prog 119 D9:=⟨Go.Proofs.Tryz.f119,Go.Proofs.Tryz.func119,rfl,rfl,rfl,by kernel_rfl⟩
theorem zz:aY Go.Proofs.Tryz.prog 120 En:=⟨Go.Proofs.Tryz.f120,Go.Proofs.Tryz.func120,rfl,rfl,rfl,by kernel_rfl⟩
theorem AS:aY Go.Proofs.Tryz.prog 122 DJ:=⟨Go.Proofs.Tryz.f122,Go.Proofs.Tryz.func122,rfl,rfl,rfl,by kernel_rfl⟩
theorem BM:aY Go.Proofs.Tryz.prog 123 DX:=⟨Go.Proofs.Tryz.f123,Go.Proofs.Tryz.func123,rfl,rfl,rfl,by kernel_rfl⟩
theorem AP:aY Go.Proofs.Tryz.prog 125 DI:=⟨Go.Proofs.Tryz.f125,Go.Proofs.Tryz.func125,rfl,rfl,rfl,by kernel_rfl⟩
theorem zr:aY Go.Proofs.Tryz.prog 126 Eg:=⟨Go.Proofs.Tryz.f126,Go.Proofs.Tryz.func126,rfl,rfl,rfl,by kernel_rfl⟩
theorem A7:aY Go.Proofs.Tryz.prog 127 Ea:=⟨Go.Proofs.Tryz.f127,Go.Proofs.Tryz.func127,rfl,rfl,rfl,by kernel_rfl⟩
theorem Bz:aY Go.Proofs.Tryz.prog 128 Ej:=⟨Go.Proofs.Tryz.f128,Go.Proofs.Tryz.func128,rfl,rfl,rfl,by kernel_rfl⟩
theorem Ad:aY Go.Proofs.Tryz.prog 129 Bm:=⟨Go.Proofs.Tryz.f129,Go.Proofs.Tryz.func129,rfl,rfl,rfl,by kernel_rfl⟩
theorem Ak:aY Go.Proofs.Tryz.prog 130 Dw:=⟨Go.Proofs.Tryz.f130,Go.Proofs.Tryz.func130,rfl,rfl,rfl,by kernel_rfl⟩
theorem zW:aY Go.Proofs.Tryz.prog 131 Eo:=⟨Go.Proofs.Tryz.f131,Go.Proofs.Tryz.func131,rfl,rfl,rfl,by kernel_rfl⟩
theorem AA:aY Go.Proofs.Tryz.prog 132 Dv:=⟨Go.Proofs.Tryz.f132,Go.Proofs.Tryz.func132,rfl,rfl,rfl,by kernel_rfl⟩
theorem AC:aY Go.Proofs.Tryz.prog 133 Bh:=⟨Go.Proofs.Tryz.f133,Go.Proofs.Tryz.func133,rfl,rfl,rfl,by kernel_rfl⟩
theorem AQ:aY Go.Proofs.Tryz.prog 134 AN:=⟨Go.Proofs.Tryz.f134,Go.Proofs.Tryz.func134,rfl,rfl,rfl,by kernel_rfl⟩
theorem BD:aY Go.Proofs.Tryz.prog 135 DT:=⟨Go.Proofs.Tryz.f135,Go.Proofs.Tryz.func135,rfl,rfl,rfl,by kernel_rfl⟩
theorem Ax:aY Go.Proofs.Tryz.prog 136 DL:=⟨Go.Proofs.Tryz.f136,Go.Proofs.Tryz.func136,rfl,rfl,rfl,by kernel_rfl⟩
theorem Ar:aY Go.Proofs.Tryz.prog 137 BE:=⟨Go.Proofs.Tryz.f137,Go.Proofs.Tryz.func137,rfl,rfl,rfl,by kernel_rfl⟩
theorem AK:aY Go.Proofs.Tryz.prog 138 AD:=⟨Go.Proofs.Tryz.f138,Go.Proofs.Tryz.func138,rfl,rfl,rfl,by kernel_rfl⟩
theorem zD:aY Go.Proofs.Tryz.prog 139 AM:=⟨Go.Proofs.Tryz.f139,Go.Proofs.Tryz.func139,rfl,rfl,rfl,by kernel_rfl⟩
theorem BK:aY Go.Proofs.Tryz.prog 140 Ek:=⟨Go.Proofs.Tryz.f140,Go.Proofs.Tryz.func140,rfl,rfl,rfl,by kernel_rfl⟩
theorem A2:aY Go.Proofs.Tryz.prog 141 Dz:=⟨Go.Proofs.Tryz.f141,Go.Proofs.Tryz.func141,rfl,rfl,rfl,by kernel_rfl⟩
theorem Az:aY Go.Proofs.Tryz.prog 144 yd:=⟨Go.Proofs.Tryz.f144,Go.Proofs.Tryz.func144,rfl,rfl,rfl,by kernel_rfl⟩
theorem A5:aY Go.Proofs.Tryz.prog 148 DW:=⟨Go.Proofs.Tryz.f148,Go.Proofs.Tryz.func148,rfl,rfl,rfl,by kernel_rfl⟩
theorem BI:aY Go.Proofs.Tryz.prog 155 DY:=⟨Go.Proofs.Tryz.f155,Go.Proofs.Tryz.func155,rfl,rfl,rfl,by kernel_rfl⟩
theorem zN:aY Go.Proofs.Tryz.prog 158 Eh:=⟨Go.Proofs.Tryz.f158,Go.Proofs.Tryz.func158,rfl,rfl,rfl,by kernel_rfl⟩
theorem Ag:aY Go.Proofs.Tryz.prog 160 Ed:=⟨Go.Proofs.Tryz.f160,Go.Proofs.Tryz.func160,rfl,rfl,rfl,by kernel_rfl⟩
theorem AG:aY Go.Proofs.Tryz.prog 161 DV:=⟨Go.Proofs.Tryz.f161,Go.Proofs.Tryz.func161,rfl,rfl,rfl,by kernel_rfl⟩
theorem zH:aY Go.Proofs.Tryz.prog 162 DK:=⟨Go.Proofs.Tryz.f162,Go.Proofs.Tryz.func162,rfl,rfl,rfl,by kernel_rfl⟩
theorem zO:aY Go.Proofs.Tryz.prog 163 Ei:=⟨Go.Proofs.Tryz.f163,Go.Proofs.Tryz.func163,rfl,rfl,rfl,by kernel_rfl⟩
theorem zS:aY Go.Proofs.Tryz.prog 164 As:=⟨Go.Proofs.Tryz.f164,Go.Proofs.Tryz.func164,rfl,rfl,rfl,by kernel_rfl⟩
theorem AY:aY Go.Proofs.Tryz.prog 165 Dy:=⟨Go.Proofs.Tryz.f165,Go.Proofs.Tryz.func165,rfl,rfl,rfl,by kernel_rfl⟩
theorem zZ:aY Go.Proofs.Tryz.prog 166 Ew:=⟨Go.Proofs.Tryz.f166,Go.Proofs.Tryz.func166,rfl,rfl,rfl,by kernel_rfl⟩
theorem zQ:aY Go.Proofs.Tryz.prog 167 DC:=⟨Go.Proofs.Tryz.f167,Go.Proofs.Tryz.func167,rfl,rfl,rfl,by kernel_rfl⟩
theorem Be:aY Go.Proofs.Tryz.prog 168 Et:=⟨Go.Proofs.Tryz.f168,Go.Proofs.Tryz.func168,rfl,rfl,rfl,by kernel_rfl⟩
theorem A0:aY Go.Proofs.Tryz.prog 169 Ef:=⟨Go.Proofs.Tryz.f169,Go.Proofs.Tryz.func169,rfl,rfl,rfl,by kernel_rfl⟩
theorem zP:aY Go.Proofs.Tryz.prog 170 AH:=⟨Go.Proofs.Tryz.f170,Go.Proofs.Tryz.func170,rfl,rfl,rfl,by kernel_rfl⟩
theorem zt:aY Go.Proofs.Tryz.prog 171 xP:=⟨Go.Proofs.Tryz.f171,Go.Proofs.Tryz.func171,rfl,rfl,rfl,by kernel_rfl⟩
theorem Am:aY Go.Proofs.Tryz.prog 172 Ah:=⟨Go.Proofs.Tryz.f172,Go.Proofs.Tryz.func172,rfl,rfl,rfl,by kernel_rfl⟩
theorem AW:aY Go.Proofs.Tryz.prog 173 Em:=⟨Go.Proofs.Tryz.f173,Go.Proofs.Tryz.func173,rfl,rfl,rfl,by kernel_rfl⟩
theorem Bc:aY Go.Proofs.Tryz.prog 189 zV:=⟨Go.Proofs.Tryz.f189,Go.Proofs.Tryz.func189,rfl,rfl,rfl,by kernel_rfl⟩
theorem Bn:aY Go.Proofs.Tryz.prog 190 Ec:=⟨Go.Proofs.Tryz.f190,Go.Proofs.Tryz.func190,rfl,rfl,rfl,by kernel_rfl⟩
theorem zC:aY Go.Proofs.Tryz.prog 191 EB:=⟨Go.Proofs.Tryz.f191,Go.Proofs.Tryz.func191,rfl,rfl,rfl,by kernel_rfl⟩
theorem E2:zx (aY Go.Proofs.Tryz.prog) H5:=⟨Fo,BQ,Dt,Cm,C5,Dk,CZ,CU,CJ,CN,CQ,Dq,CB,Da,CO,BX,BZ,C6,B0,B1,C7,Dm,CH,B5,Dc,CP,BW,Di,CY,CW,CC,B9,Cb,Df,C2,C3,CX,Ae,zw,Bg,AI,BO,zE,A9,zz,AS,BM,AP,zr,A7,Bz,Ad,Ak,zW,AA,AC,AQ,BD,Ax,Ar,AK,zD,BK,A2,Az,A5,BI,zN,Ag,AG,zH,zO,zS,AY,zZ,zQ,Be,A0,zP,zt,Am,AW,Bc,Bn,zC,trivial⟩
theorem mixed:(Go.Proofs.Tryz.prog).follows .mixedOrders=true:=by kernel_rfl
theorem Ff (f:FuncId)(args:List mo)(r:(rS f).den)(h:Bj f args=some r):jc Go.Proofs.Tryz.prog aa rS f args r:=by
 unfold Bj at h
 by_cases e159:f=159
 ·subst e159
  rw [dif_pos rfl] at h
  exact C4 (by kernel_rfl) ⟨Go.Proofs.Tryz.f159,Go.Proofs.Tryz.func159,rfl,by kernel_rfl⟩ Go.Proofs.Tryz.strconv_Itoa (fun _ h=>h) h HEq.rfl
 rw [dif_neg e159] at h
 by_cases e200:f=200
 ·subst e200
  rw [dif_pos rfl] at h
  exact BV (by kernel_rfl) ⟨Go.Proofs.Tryz.f200,Go.Proofs.Tryz.func200,rfl,by kernel_rfl⟩ Go.Proofs.Tryz.strings_Join_none Go.Proofs.Tryz.strings_Join h HEq.rfl
 rw [dif_neg e200] at h
 cases h
theorem EO (f:Nat):(E aV).pks f=match look f G4 with|some l=>l|none=>[]:=by
 show zY f=_
 unfold zY
 cases look f G4<;>rfl
theorem EG:rJ G4=true:=by kernel_rfl
theorem EI:sU Go.Proofs.Tryz.prog aa (E aV):=sU.noB (fun T i h=>(qP E5).look T i h) (pks:=G4) EO EG
theorem lv_ok (k:Nat):jf Go.Proofs.Tryz.prog aa rS (ec (E aV) k):=
 Fe (E:=E aV) EI (fun _ _=>rfl) (fun f fi h=>E2.look f fi h) (fun f args r _ h=>Ff f args r h) mixed k
end Go.Proofs.YtjkokaockhecnaaGreatDoorA
