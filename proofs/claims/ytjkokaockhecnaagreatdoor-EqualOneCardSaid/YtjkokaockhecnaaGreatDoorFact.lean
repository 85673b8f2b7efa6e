/- The program is what the machine is told of it, so that what the machine answers of a call is what the program answers; no condition. -/
import Derived.Test.YtjkokaockhecnaaGreatDoorExt3
import Derived.Test.YtjkokaockhecnaaGreatDoorShelf
import Derived.Test.YtjkokaockhecnaaGreatDoorEnv
namespace Go.Proofs.YtjkokaockhecnaaGreatDoorA
open Go
set_option linter.unusedVariables false
def GK (t:El):Nat:=
 match t with
 |.int .i64=>3
 |.bool=>4
 |.int .u8=>5
 |.str=>9
 |.list .str=>23
 |.arr=>27
 |.node=>58
 |_=>0
def Tabs (w:World):Prop:=Lib.TabIs Go.Proofs.Tryz.prog w "internal/strconv.uint64pow10" .u64 Lib.pow10Tab
theorem DO:(Go.Proofs.Tryz.prog).globalNamed "internal/strconv.uint64pow10" =some 2:=by kernel_rfl
def aa:bb:=⟨GK,[2],Tabs,fun w w' q h=>wS DO (q 2 (by decide)) h⟩
theorem tabs_ok {W:World}(h:Tabs W):iM aa W ⟨fun _ _=>.imm,fun _ _=>.slice none 0 0,fun _=>(0,0)⟩:=by
 refine ⟨h,fun b hb=>⟨?_,fun _=>rfl⟩⟩
 have hb':b∈[2]:=hb
 simp only [List.mem_cons,List.not_mem_nil,or_false] at hb'
 rw [hb']
 exact Ff DO h
theorem E5:xU Go.Proofs.Tryz.prog aa H2=true:=by kernel_rfl
theorem EV:aZ Go.Proofs.Tryz.prog 3 HE:=⟨Go.Proofs.Tryz.f3,Go.Proofs.Tryz.func3,rfl,rfl,rfl,by kernel_rfl⟩
theorem Db:aZ Go.Proofs.Tryz.prog 15 G9:=⟨Go.Proofs.Tryz.f15,Go.Proofs.Tryz.func15,rfl,rfl,rfl,by kernel_rfl⟩
theorem C4:aZ Go.Proofs.Tryz.prog 16 G1:=⟨Go.Proofs.Tryz.f16,Go.Proofs.Tryz.func16,rfl,rfl,rfl,by kernel_rfl⟩
theorem CE:aZ Go.Proofs.Tryz.prog 17 EM:=⟨Go.Proofs.Tryz.f17,Go.Proofs.Tryz.func17,rfl,rfl,rfl,by kernel_rfl⟩
theorem Da:aZ Go.Proofs.Tryz.prog 18 F6:=⟨Go.Proofs.Tryz.f18,Go.Proofs.Tryz.func18,rfl,rfl,rfl,by kernel_rfl⟩
theorem B2:aZ Go.Proofs.Tryz.prog 19 FD:=⟨Go.Proofs.Tryz.f19,Go.Proofs.Tryz.func19,rfl,rfl,rfl,by kernel_rfl⟩
theorem B5:aZ Go.Proofs.Tryz.prog 20 Gn:=⟨Go.Proofs.Tryz.f20,Go.Proofs.Tryz.func20,rfl,rfl,rfl,by kernel_rfl⟩
theorem C9:aZ Go.Proofs.Tryz.prog 31 F4:=⟨Go.Proofs.Tryz.f31,Go.Proofs.Tryz.func31,rfl,rfl,rfl,by kernel_rfl⟩
theorem BZ:aZ Go.Proofs.Tryz.prog 42 FP:=⟨Go.Proofs.Tryz.f42,Go.Proofs.Tryz.func42,rfl,rfl,rfl,by kernel_rfl⟩
theorem CV:aZ Go.Proofs.Tryz.prog 43 GZ:=⟨Go.Proofs.Tryz.f43,Go.Proofs.Tryz.func43,rfl,rfl,rfl,by kernel_rfl⟩
theorem Ds:aZ Go.Proofs.Tryz.prog 44 GN:=⟨Go.Proofs.Tryz.f44,Go.Proofs.Tryz.func44,rfl,rfl,rfl,by kernel_rfl⟩
theorem CN:aZ Go.Proofs.Tryz.prog 45 G4:=⟨Go.Proofs.Tryz.f45,Go.Proofs.Tryz.func45,rfl,rfl,rfl,by kernel_rfl⟩
theorem CC:aZ Go.Proofs.Tryz.prog 46 EJ:=⟨Go.Proofs.Tryz.f46,Go.Proofs.Tryz.func46,rfl,rfl,rfl,by kernel_rfl⟩
theorem CX:aZ Go.Proofs.Tryz.prog 47 Hg:=⟨Go.Proofs.Tryz.f47,Go.Proofs.Tryz.func47,rfl,rfl,rfl,by kernel_rfl⟩
theorem BW:aZ Go.Proofs.Tryz.prog 48 Fh:=⟨Go.Proofs.Tryz.f48,Go.Proofs.Tryz.func48,rfl,rfl,rfl,by kernel_rfl⟩
theorem BY:aZ Go.Proofs.Tryz.prog 49 za:=⟨Go.Proofs.Tryz.f49,Go.Proofs.Tryz.func49,rfl,rfl,rfl,by kernel_rfl⟩
theorem B7:aZ Go.Proofs.Tryz.prog 50 EH:=⟨Go.Proofs.Tryz.f50,Go.Proofs.Tryz.func50,rfl,rfl,rfl,by kernel_rfl⟩
theorem CH:aZ Go.Proofs.Tryz.prog 51 E1:=⟨Go.Proofs.Tryz.f51,Go.Proofs.Tryz.func51,rfl,rfl,rfl,by kernel_rfl⟩
theorem Cm:aZ Go.Proofs.Tryz.prog 65 Fv:=⟨Go.Proofs.Tryz.f65,Go.Proofs.Tryz.func65,rfl,rfl,rfl,by kernel_rfl⟩
theorem CL:aZ Go.Proofs.Tryz.prog 73 GO:=⟨Go.Proofs.Tryz.f73,Go.Proofs.Tryz.func73,rfl,rfl,rfl,by kernel_rfl⟩
theorem CO:aZ Go.Proofs.Tryz.prog 78 EW:=⟨Go.Proofs.Tryz.f78,Go.Proofs.Tryz.func78,rfl,rfl,rfl,by kernel_rfl⟩
theorem Cj:aZ Go.Proofs.Tryz.prog 82 F5:=⟨Go.Proofs.Tryz.f82,Go.Proofs.Tryz.func82,rfl,rfl,rfl,by kernel_rfl⟩
theorem Cc:aZ Go.Proofs.Tryz.prog 83 Gv:=⟨Go.Proofs.Tryz.f83,Go.Proofs.Tryz.func83,rfl,rfl,rfl,by kernel_rfl⟩
theorem CU:aZ Go.Proofs.Tryz.prog 84 Gi:=⟨Go.Proofs.Tryz.f84,Go.Proofs.Tryz.func84,rfl,rfl,rfl,by kernel_rfl⟩
theorem Dl:aZ Go.Proofs.Tryz.prog 85 F3:=⟨Go.Proofs.Tryz.f85,Go.Proofs.Tryz.func85,rfl,rfl,rfl,by kernel_rfl⟩
theorem Du:aZ Go.Proofs.Tryz.prog 86 BU:=⟨Go.Proofs.Tryz.f86,Go.Proofs.Tryz.func86,rfl,rfl,rfl,by kernel_rfl⟩
theorem Dt:aZ Go.Proofs.Tryz.prog 87 C6:=⟨Go.Proofs.Tryz.f87,Go.Proofs.Tryz.func87,rfl,rfl,rfl,by kernel_rfl⟩
theorem CP:aZ Go.Proofs.Tryz.prog 88 Gw:=⟨Go.Proofs.Tryz.f88,Go.Proofs.Tryz.func88,rfl,rfl,rfl,by kernel_rfl⟩
theorem Dc:aZ Go.Proofs.Tryz.prog 89 F9:=⟨Go.Proofs.Tryz.f89,Go.Proofs.Tryz.func89,rfl,rfl,rfl,by kernel_rfl⟩
theorem B8:aZ Go.Proofs.Tryz.prog 90 ER:=⟨Go.Proofs.Tryz.f90,Go.Proofs.Tryz.func90,rfl,rfl,rfl,by kernel_rfl⟩
theorem Dj:aZ Go.Proofs.Tryz.prog 91 E4:=⟨Go.Proofs.Tryz.f91,Go.Proofs.Tryz.func91,rfl,rfl,rfl,by kernel_rfl⟩
theorem CY:aZ Go.Proofs.Tryz.prog 92 Fq:=⟨Go.Proofs.Tryz.f92,Go.Proofs.Tryz.func92,rfl,rfl,rfl,by kernel_rfl⟩
theorem Dq:aZ Go.Proofs.Tryz.prog 93 Fa:=⟨Go.Proofs.Tryz.f93,Go.Proofs.Tryz.func93,rfl,rfl,rfl,by kernel_rfl⟩
theorem B1:aZ Go.Proofs.Tryz.prog 94 EF:=⟨Go.Proofs.Tryz.f94,Go.Proofs.Tryz.func94,rfl,rfl,rfl,by kernel_rfl⟩
theorem C7:aZ Go.Proofs.Tryz.prog 95 Gy:=⟨Go.Proofs.Tryz.f95,Go.Proofs.Tryz.func95,rfl,rfl,rfl,by kernel_rfl⟩
theorem Dm:aZ Go.Proofs.Tryz.prog 96 Gf:=⟨Go.Proofs.Tryz.f96,Go.Proofs.Tryz.func96,rfl,rfl,rfl,by kernel_rfl⟩
theorem BR:aZ Go.Proofs.Tryz.prog 98 GE:=⟨Go.Proofs.Tryz.f98,Go.Proofs.Tryz.func98,rfl,rfl,rfl,by kernel_rfl⟩
theorem zA:aZ Go.Proofs.Tryz.prog 100 Ew:=⟨Go.Proofs.Tryz.f100,Go.Proofs.Tryz.func100,rfl,rfl,rfl,by kernel_rfl⟩
theorem Bz:aZ Go.Proofs.Tryz.prog 101 Ax:=⟨Go.Proofs.Tryz.f101,Go.Proofs.Tryz.func101,rfl,rfl,rfl,by kernel_rfl⟩
theorem Bi:aZ Go.Proofs.Tryz.prog 108 D9:=⟨Go.Proofs.Tryz.f108,Go.Proofs.Tryz.func108,rfl,rfl,rfl,by kernel_rfl⟩
theorem BJ:aZ Go.Proofs.Tryz.prog 111 Ek:=⟨Go.Proofs.Tryz.f111,Go.Proofs.Tryz.func111,rfl,rfl,rfl,by kernel_rfl⟩
theorem Bm:aZ Go.Proofs.Tryz.prog 112 DV:=⟨Go.Proofs.Tryz.f112,Go.Proofs.Tryz.func112,rfl,rfl,rfl,by kernel_rfl⟩
theorem BP:aZ Go.Proofs.Tryz.prog 118 Ep:=⟨Go.Proofs.Tryz.f118,Go.Proofs.Tryz.func118,rfl,rfl,rfl,by kernel_rfl⟩
theorem AY:aZ Go.Proofs.Tryz.prog 119 En:=⟨Go.Proofs.Tryz.f119,Go.Proofs.Tryz.func119,rfl,rfl,rfl,by kernel_rfl⟩
theorem Az:aZ Go.Proofs.Tryz.prog 120 Ed:=⟨Go.Proofs.Tryz.f120,Go.Proofs.Tryz.func120,rfl,rfl,rfl,by kernel_rfl⟩
theorem Bl:aZ Go.Proofs.Tryz.prog 122 Ez:=⟨Go.Proofs.Tryz.f122,Go.Proofs.Tryz.func122,rfl,rfl,rfl,by kernel_rfl⟩
theorem AX:aZ Go.Proofs.Tryz.prog 123 Es:=⟨Go.Proofs.Tryz.f123,Go.Proofs.Tryz.func123,rfl,rfl,rfl,by kernel_rfl⟩
theorem AN:aZ Go.Proofs.Tryz.prog 125 Em:=⟨Go.Proofs.Tryz.f125,Go.Proofs.Tryz.func125,rfl,rfl,rfl,by kernel_rfl⟩
theorem A6:aZ Go.Proofs.Tryz.prog 126 DL:=⟨Go.Proofs.Tryz.f126,Go.Proofs.Tryz.func126,rfl,rfl,rfl,by kernel_rfl⟩
theorem As:aZ Go.Proofs.Tryz.prog 127 D7:=⟨Go.Proofs.Tryz.f127,Go.Proofs.Tryz.func127,rfl,rfl,rfl,by kernel_rfl⟩
theorem Ak:aZ Go.Proofs.Tryz.prog 128 DZ:=⟨Go.Proofs.Tryz.f128,Go.Proofs.Tryz.func128,rfl,rfl,rfl,by kernel_rfl⟩
theorem AL:aZ Go.Proofs.Tryz.prog 129 By:=⟨Go.Proofs.Tryz.f129,Go.Proofs.Tryz.func129,rfl,rfl,rfl,by kernel_rfl⟩
theorem BC:aZ Go.Proofs.Tryz.prog 130 D5:=⟨Go.Proofs.Tryz.f130,Go.Proofs.Tryz.func130,rfl,rfl,rfl,by kernel_rfl⟩
theorem Bh:aZ Go.Proofs.Tryz.prog 131 Eu:=⟨Go.Proofs.Tryz.f131,Go.Proofs.Tryz.func131,rfl,rfl,rfl,by kernel_rfl⟩
theorem AK:aZ Go.Proofs.Tryz.prog 132 DT:=⟨Go.Proofs.Tryz.f132,Go.Proofs.Tryz.func132,rfl,rfl,rfl,by kernel_rfl⟩
theorem Ap:aZ Go.Proofs.Tryz.prog 133 BO:=⟨Go.Proofs.Tryz.f133,Go.Proofs.Tryz.func133,rfl,rfl,rfl,by kernel_rfl⟩
theorem zW:aZ Go.Proofs.Tryz.prog 134 zB:=⟨Go.Proofs.Tryz.f134,Go.Proofs.Tryz.func134,rfl,rfl,rfl,by kernel_rfl⟩
theorem BF:aZ Go.Proofs.Tryz.prog 135 Eo:=⟨Go.Proofs.Tryz.f135,Go.Proofs.Tryz.func135,rfl,rfl,rfl,by kernel_rfl⟩
theorem Bj:aZ Go.Proofs.Tryz.prog 136 Eh:=⟨Go.Proofs.Tryz.f136,Go.Proofs.Tryz.func136,rfl,rfl,rfl,by kernel_rfl⟩
theorem zH:aZ Go.Proofs.Tryz.prog 137 Bn:=⟨Go.Proofs.Tryz.f137,Go.Proofs.Tryz.func137,rfl,rfl,rfl,by kernel_rfl⟩
theorem zS:aZ Go.Proofs.Tryz.prog 138 AE:=⟨Go.Proofs.Tryz.f138,Go.Proofs.Tryz.func138,rfl,rfl,rfl,by kernel_rfl⟩
theorem AS:aZ Go.Proofs.Tryz.prog 139 AU:=⟨Go.Proofs.Tryz.f139,Go.Proofs.Tryz.func139,rfl,rfl,rfl,by kernel_rfl⟩
theorem Br:aZ Go.Proofs.Tryz.prog 140 Eb:=⟨Go.Proofs.Tryz.f140,Go.Proofs.Tryz.func140,rfl,rfl,rfl,by kernel_rfl⟩
theorem Bq:aZ Go.Proofs.Tryz.prog 141 DG:=⟨Go.Proofs.Tryz.f141,Go.Proofs.Tryz.func141,rfl,rfl,rfl,by kernel_rfl⟩
theorem A5:aZ Go.Proofs.Tryz.prog 144 ym:=⟨Go.Proofs.Tryz.f144,Go.Proofs.Tryz.func144,rfl,rfl,rfl,by kernel_rfl⟩
theorem zT:aZ Go.Proofs.Tryz.prog 148 DY:=⟨Go.Proofs.Tryz.f148,Go.Proofs.Tryz.func148,rfl,rfl,rfl,by kernel_rfl⟩
theorem BA:aZ Go.Proofs.Tryz.prog 155 DI:=⟨Go.Proofs.Tryz.f155,Go.Proofs.Tryz.func155,rfl,rfl,rfl,by kernel_rfl⟩
theorem Bv:aZ Go.Proofs.Tryz.prog 158 DC:=⟨Go.Proofs.Tryz.f158,Go.Proofs.Tryz.func158,rfl,rfl,rfl,by kernel_rfl⟩
theorem zu:aZ Go.Proofs.Tryz.prog 160 Dv:=⟨Go.Proofs.Tryz.f160,Go.Proofs.Tryz.func160,rfl,rfl,rfl,by kernel_rfl⟩
theorem AG:aZ Go.Proofs.Tryz.prog 161 Dz:=⟨Go.Proofs.Tryz.f161,Go.Proofs.Tryz.func161,rfl,rfl,rfl,by kernel_rfl⟩
theorem Bw:aZ Go.Proofs.Tryz.prog 162 Dw:=⟨Go.Proofs.Tryz.f162,Go.Proofs.Tryz.func162,rfl,rfl,rfl,by kernel_rfl⟩
theorem zy:aZ Go.Proofs.Tryz.prog 163 Ef:=⟨Go.Proofs.Tryz.f163,Go.Proofs.Tryz.func163,rfl,rfl,rfl,by kernel_rfl⟩
theorem zN:aZ Go.Proofs.Tryz.prog 164 BL:=⟨Go.Proofs.Tryz.f164,Go.Proofs.Tryz.func164,rfl,rfl,rfl,by kernel_rfl⟩
theorem Ao:aZ Go.Proofs.Tryz.prog 165 D3:=⟨Go.Proofs.Tryz.f165,Go.Proofs.Tryz.func165,rfl,rfl,rfl,by kernel_rfl⟩
theorem zq:aZ Go.Proofs.Tryz.prog 166 EA:=⟨Go.Proofs.Tryz.f166,Go.Proofs.Tryz.func166,rfl,rfl,rfl,by kernel_rfl⟩
theorem Aj:aZ Go.Proofs.Tryz.prog 167 DU:=⟨Go.Proofs.Tryz.f167,Go.Proofs.Tryz.func167,rfl,rfl,rfl,by kernel_rfl⟩
theorem BI:aZ Go.Proofs.Tryz.prog 168 Ej:=⟨Go.Proofs.Tryz.f168,Go.Proofs.Tryz.func168,rfl,rfl,rfl,by kernel_rfl⟩
theorem A8:aZ Go.Proofs.Tryz.prog 169 DJ:=⟨Go.Proofs.Tryz.f169,Go.Proofs.Tryz.func169,rfl,rfl,rfl,by kernel_rfl⟩
theorem Aq:aZ Go.Proofs.Tryz.prog 170 zw:=⟨Go.Proofs.Tryz.f170,Go.Proofs.Tryz.func170,rfl,rfl,rfl,by kernel_rfl⟩
theorem A0:aZ Go.Proofs.Tryz.prog 171 xO:=⟨Go.Proofs.Tryz.f171,Go.Proofs.Tryz.func171,rfl,rfl,rfl,by kernel_rfl⟩
theorem BH:aZ Go.Proofs.Tryz.prog 172 A4:=⟨Go.Proofs.Tryz.f172,Go.Proofs.Tryz.func172,rfl,rfl,rfl,by kernel_rfl⟩
theorem AH:aZ Go.Proofs.Tryz.prog 173 DX:=⟨Go.Proofs.Tryz.f173,Go.Proofs.Tryz.func173,rfl,rfl,rfl,by kernel_rfl⟩
theorem zz:aZ Go.Proofs.Tryz.prog 189 zL:=⟨Go.Proofs.Tryz.f189,Go.Proofs.Tryz.func189,rfl,rfl,rfl,by kernel_rfl⟩
theorem Ai:aZ Go.Proofs.Tryz.prog 190 DW:=⟨Go.Proofs.Tryz.f190,Go.Proofs.Tryz.func190,rfl,rfl,rfl,by kernel_rfl⟩
theorem Ar:aZ Go.Proofs.Tryz.prog 191 DD:=⟨Go.Proofs.Tryz.f191,Go.Proofs.Tryz.func191,rfl,rfl,rfl,by kernel_rfl⟩
theorem Fb:BB (aZ Go.Proofs.Tryz.prog) H5:=⟨EV,Db,C4,CE,Da,B2,B5,C9,BZ,CV,Ds,CN,CC,CX,BW,BY,B7,CH,Cm,CL,CO,Cj,Cc,CU,Dl,Du,Dt,CP,Dc,B8,Dj,CY,Dq,B1,C7,Dm,BR,zA,Bz,Bi,BJ,Bm,BP,AY,Az,Bl,AX,AN,A6,As,Ak,AL,BC,Bh,AK,Ap,zW,BF,Bj,zH,zS,AS,Br,Bq,A5,zT,BA,Bv,zu,AG,Bw,zy,zN,Ao,zq,Aj,BI,A8,Aq,A0,BH,AH,zz,Ai,Ar,trivial⟩
theorem Am:(Go.Proofs.Tryz.prog).follows .mixedOrders=true:=by kernel_rfl
theorem EX (f:FuncId)(args:List l7)(r:(qV f).den)(h:zG f args=some r):jl Go.Proofs.Tryz.prog aa qV f args r:=by
 unfold zG at h
 by_cases e159:f=159
 ·subst e159
  rw [dif_pos rfl] at h
  exact Do (by kernel_rfl) ⟨Go.Proofs.Tryz.f159,Go.Proofs.Tryz.func159,rfl,by kernel_rfl⟩ Go.Proofs.Tryz.strconv_Itoa (fun _ h=>h) h HEq.rfl
 rw [dif_neg e159] at h
 by_cases e200:f=200
 ·subst e200
  rw [dif_pos rfl] at h
  exact CQ (by kernel_rfl) ⟨Go.Proofs.Tryz.f200,Go.Proofs.Tryz.func200,rfl,by kernel_rfl⟩ Go.Proofs.Tryz.strings_Join_none Go.Proofs.Tryz.strings_Join h HEq.rfl
 rw [dif_neg e200] at h
 cases h
theorem EO (f:Nat):(E aW).pks f=match look f GT with|some l=>l|none=>[]:=by
 show AB f=_
 unfold AB
 cases look f GT<;>rfl
theorem EE:rB GT=true:=by kernel_rfl
theorem EN:tG Go.Proofs.Tryz.prog aa (E aW):=tG.noB (fun T i h=>(qz E5).look T i h) (pks:=GT) EO EE
theorem lv_ok (k:Nat):je Go.Proofs.Tryz.prog aa qV (ee (E aW) k):=
 E8 (E:=E aW) EN (fun _ _=>rfl) (fun f fi h=>Fb.look f fi h) (fun f args r _ h=>EX f args r h) Am k
end Go.Proofs.YtjkokaockhecnaaGreatDoorA
