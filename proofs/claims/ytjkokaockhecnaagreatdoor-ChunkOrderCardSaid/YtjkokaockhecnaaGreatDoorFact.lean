/- The program is what the machine is told of it, so that what the machine answers of a call is what the program answers; no condition. -/
import Derived.Test.YtjkokaockhecnaaGreatDoorExt3
import Derived.Test.YtjkokaockhecnaaGreatDoorBld4
import Derived.Test.YtjkokaockhecnaaGreatDoorShelf
import Derived.Test.YtjkokaockhecnaaGreatDoorEnv
namespace Go.Proofs.YtjkokaockhecnaaGreatDoorA
open Go
set_option linter.unusedVariables false
def EQ (t:El):Nat:=
 match t with
 |.int .i64=>3
 |.bool=>4
 |.int .u8=>5
 |.str=>9
 |.node=>58
 |_=>0
def Tabs (w:World):Prop:=SentIs Go.Proofs.Tryz.prog w "strconv.ErrSyntax" ∧SentIs Go.Proofs.Tryz.prog w "strconv.ErrRange" ∧Lib.TabIs Go.Proofs.Tryz.prog w "internal/strconv.uint64pow10" .u64 Lib.pow10Tab∧IntIs Go.Proofs.Tryz.prog w "internal/bytealg.MaxLen"
theorem CO:(Go.Proofs.Tryz.prog).globalNamed "strconv.ErrSyntax" =some 0:=by kernel_rfl
theorem Da:(Go.Proofs.Tryz.prog).globalNamed "strconv.ErrRange" =some 1:=by kernel_rfl
theorem CE:(Go.Proofs.Tryz.prog).globalNamed "internal/strconv.uint64pow10" =some 2:=by kernel_rfl
theorem zL:(Go.Proofs.Tryz.prog).globalNamed "internal/bytealg.MaxLen" =some 3:=by kernel_rfl
def aa:aT:=⟨EQ,[0,1,2,3],Tabs,fun w w' q h=>⟨nC CO (q 0 (by decide)) h.1,nC Da (q 1 (by decide)) h.2.1,uS CE (q 2 (by decide)) h.2.2.1,vz zL (q 3 (by decide)) h.2.2.2⟩⟩
theorem tabs_ok {W:World}(h:Tabs W):gY aa W ⟨fun _ _=>.imm,fun _ _=>.slice none 0 0,fun _=>(0,0)⟩:=by
 refine ⟨h,fun b hb=>⟨?_,fun _=>rfl⟩⟩
 have hb':b∈[0,1,2,3]:=hb
 simp only [List.mem_cons,List.not_mem_nil,or_false] at hb'
 rcases hb' with e|e|e|e
 ·rw [e];exact wS CO h.1
 ·rw [e];exact wS Da h.2.1
 ·rw [e];exact Dz CE h.2.2.1
 ·rw [e];exact Du zL h.2.2.2
theorem Ec:wk Go.Proofs.Tryz.prog aa Gl=true:=by kernel_rfl
theorem BJ:aY Go.Proofs.Tryz.prog 14 EW:=⟨Go.Proofs.Tryz.f14,Go.Proofs.Tryz.func14,rfl,rfl,rfl,by kernel_rfl⟩
theorem A5:aY Go.Proofs.Tryz.prog 20 E7:=⟨Go.Proofs.Tryz.f20,Go.Proofs.Tryz.func20,rfl,rfl,rfl,by kernel_rfl⟩
theorem Bi:aY Go.Proofs.Tryz.prog 21 Eo:=⟨Go.Proofs.Tryz.f21,Go.Proofs.Tryz.func21,rfl,rfl,rfl,by kernel_rfl⟩
theorem Bj:aY Go.Proofs.Tryz.prog 22 AW:=⟨Go.Proofs.Tryz.f22,Go.Proofs.Tryz.func22,rfl,rfl,rfl,by kernel_rfl⟩
theorem Bh:aY Go.Proofs.Tryz.prog 24 DT:=⟨Go.Proofs.Tryz.f24,Go.Proofs.Tryz.func24,rfl,rfl,rfl,by kernel_rfl⟩
theorem BP:aY Go.Proofs.Tryz.prog 26 Fp:=⟨Go.Proofs.Tryz.f26,Go.Proofs.Tryz.func26,rfl,rfl,rfl,by kernel_rfl⟩
theorem BF:aY Go.Proofs.Tryz.prog 34 D7:=⟨Go.Proofs.Tryz.f34,Go.Proofs.Tryz.func34,rfl,rfl,rfl,by kernel_rfl⟩
theorem BG:aY Go.Proofs.Tryz.prog 36 D6:=⟨Go.Proofs.Tryz.f36,Go.Proofs.Tryz.func36,rfl,rfl,rfl,by kernel_rfl⟩
theorem Bf:aY Go.Proofs.Tryz.prog 38 Ed:=⟨Go.Proofs.Tryz.f38,Go.Proofs.Tryz.func38,rfl,rfl,rfl,by kernel_rfl⟩
theorem Bq:aY Go.Proofs.Tryz.prog 41 EY:=⟨Go.Proofs.Tryz.f41,Go.Proofs.Tryz.func41,rfl,rfl,rfl,by kernel_rfl⟩
theorem BV:aY Go.Proofs.Tryz.prog 52 DL:=⟨Go.Proofs.Tryz.f52,Go.Proofs.Tryz.func52,rfl,rfl,rfl,by kernel_rfl⟩
theorem Bn:aY Go.Proofs.Tryz.prog 53 Eh:=⟨Go.Proofs.Tryz.f53,Go.Proofs.Tryz.func53,rfl,rfl,rfl,by kernel_rfl⟩
theorem Bz:aY Go.Proofs.Tryz.prog 54 E5:=⟨Go.Proofs.Tryz.f54,Go.Proofs.Tryz.func54,rfl,rfl,rfl,by kernel_rfl⟩
theorem AU:aY Go.Proofs.Tryz.prog 56 FI:=⟨Go.Proofs.Tryz.f56,Go.Proofs.Tryz.func56,rfl,rfl,rfl,by kernel_rfl⟩
theorem AY:aY Go.Proofs.Tryz.prog 57 ES:=⟨Go.Proofs.Tryz.f57,Go.Proofs.Tryz.func57,rfl,rfl,rfl,by kernel_rfl⟩
theorem AH:aY Go.Proofs.Tryz.prog 58 AS:=⟨Go.Proofs.Tryz.f58,Go.Proofs.Tryz.func58,rfl,rfl,rfl,by kernel_rfl⟩
theorem A1:aY Go.Proofs.Tryz.prog 64 FQ:=⟨Go.Proofs.Tryz.f64,Go.Proofs.Tryz.func64,rfl,rfl,rfl,by kernel_rfl⟩
theorem AM:aY Go.Proofs.Tryz.prog 65 DZ:=⟨Go.Proofs.Tryz.f65,Go.Proofs.Tryz.func65,rfl,rfl,rfl,by kernel_rfl⟩
theorem Bm:aY Go.Proofs.Tryz.prog 66 Fe:=⟨Go.Proofs.Tryz.f66,Go.Proofs.Tryz.func66,rfl,rfl,rfl,by kernel_rfl⟩
theorem BO:aY Go.Proofs.Tryz.prog 67 BS:=⟨Go.Proofs.Tryz.f67,Go.Proofs.Tryz.func67,rfl,rfl,rfl,by kernel_rfl⟩
theorem Bl:aY Go.Proofs.Tryz.prog 68 Fh:=⟨Go.Proofs.Tryz.f68,Go.Proofs.Tryz.func68,rfl,rfl,rfl,by kernel_rfl⟩
theorem BD:aY Go.Proofs.Tryz.prog 69 ER:=⟨Go.Proofs.Tryz.f69,Go.Proofs.Tryz.func69,rfl,rfl,rfl,by kernel_rfl⟩
theorem Ba:aY Go.Proofs.Tryz.prog 70 Dp:=⟨Go.Proofs.Tryz.f70,Go.Proofs.Tryz.func70,rfl,rfl,rfl,by kernel_rfl⟩
theorem AE:aY Go.Proofs.Tryz.prog 71 Fb:=⟨Go.Proofs.Tryz.f71,Go.Proofs.Tryz.func71,rfl,rfl,rfl,by kernel_rfl⟩
theorem Bd:aY Go.Proofs.Tryz.prog 76 Ds:=⟨Go.Proofs.Tryz.f76,Go.Proofs.Tryz.func76,rfl,rfl,rfl,by kernel_rfl⟩
theorem Bc:aY Go.Proofs.Tryz.prog 80 BQ:=⟨Go.Proofs.Tryz.f80,Go.Proofs.Tryz.func80,rfl,rfl,rfl,by kernel_rfl⟩
theorem Bw:aY Go.Proofs.Tryz.prog 81 EJ:=⟨Go.Proofs.Tryz.f81,Go.Proofs.Tryz.func81,rfl,rfl,rfl,by kernel_rfl⟩
theorem Bv:aY Go.Proofs.Tryz.prog 97 DD:=⟨Go.Proofs.Tryz.f97,Go.Proofs.Tryz.func97,rfl,rfl,rfl,by kernel_rfl⟩
theorem BL:aY Go.Proofs.Tryz.prog 98 Ew:=⟨Go.Proofs.Tryz.f98,Go.Proofs.Tryz.func98,rfl,rfl,rfl,by kernel_rfl⟩
theorem BR:aY Go.Proofs.Tryz.prog 99 DJ:=⟨Go.Proofs.Tryz.f99,Go.Proofs.Tryz.func99,rfl,rfl,rfl,by kernel_rfl⟩
theorem yq:aY Go.Proofs.Tryz.prog 100 CY:=⟨Go.Proofs.Tryz.f100,Go.Proofs.Tryz.func100,rfl,rfl,rfl,by kernel_rfl⟩
theorem Af:aY Go.Proofs.Tryz.prog 101 zI:=⟨Go.Proofs.Tryz.f101,Go.Proofs.Tryz.func101,rfl,rfl,rfl,by kernel_rfl⟩
theorem y7:aY Go.Proofs.Tryz.prog 102 yJ:=⟨Go.Proofs.Tryz.f102,Go.Proofs.Tryz.func102,rfl,rfl,rfl,by kernel_rfl⟩
theorem zw:aY Go.Proofs.Tryz.prog 104 B8:=⟨Go.Proofs.Tryz.f104,Go.Proofs.Tryz.func104,rfl,rfl,rfl,by kernel_rfl⟩
theorem Aw:aY Go.Proofs.Tryz.prog 111 C7:=⟨Go.Proofs.Tryz.f111,Go.Proofs.Tryz.func111,rfl,rfl,rfl,by kernel_rfl⟩
theorem yr:aY Go.Proofs.Tryz.prog 112 B7:=⟨Go.Proofs.Tryz.f112,Go.Proofs.Tryz.func112,rfl,rfl,rfl,by kernel_rfl⟩
theorem Ap:aY Go.Proofs.Tryz.prog 113 zv:=⟨Go.Proofs.Tryz.f113,Go.Proofs.Tryz.func113,rfl,rfl,rfl,by kernel_rfl⟩
theorem zp:aY Go.Proofs.Tryz.prog 114 Db:=⟨Go.Proofs.Tryz.f114,Go.Proofs.Tryz.func114,rfl,rfl,rfl,by kernel_rfl⟩
theorem yn:aY Go.Proofs.Tryz.prog 115 wB:=⟨Go.Proofs.Tryz.f115,Go.Proofs.Tryz.func115,rfl,rfl,rfl,by kernel_rfl⟩
theorem yp:aY Go.Proofs.Tryz.prog 117 C3:=⟨Go.Proofs.Tryz.f117,Go.Proofs.Tryz.func117,rfl,rfl,rfl,by kernel_rfl⟩
theorem zF:aY Go.Proofs.Tryz.prog 118 Cf:=⟨Go.Proofs.Tryz.f118,Go.Proofs.Tryz.func118,rfl,rfl,rfl,by kernel_rfl⟩
theorem zc:aY Go.Proofs.Tryz.prog 119 B9:=⟨Go.Proofs.Tryz.f119,Go.Proofs.Tryz.func119,rfl,rfl,rfl,by kernel_rfl⟩
theorem zi:aY Go.Proofs.Tryz.prog 120 C9:=⟨Go.Proofs.Tryz.f120,Go.Proofs.Tryz.func120,rfl,rfl,rfl,by kernel_rfl⟩
theorem Ae:aY Go.Proofs.Tryz.prog 121 CV:=⟨Go.Proofs.Tryz.f121,Go.Proofs.Tryz.func121,rfl,rfl,rfl,by kernel_rfl⟩
theorem yD:aY Go.Proofs.Tryz.prog 141 B6:=⟨Go.Proofs.Tryz.f141,Go.Proofs.Tryz.func141,rfl,rfl,rfl,by kernel_rfl⟩
theorem zU:aY Go.Proofs.Tryz.prog 142 CJ:=⟨Go.Proofs.Tryz.f142,Go.Proofs.Tryz.func142,rfl,rfl,rfl,by kernel_rfl⟩
theorem yE:aY Go.Proofs.Tryz.prog 143 C4:=⟨Go.Proofs.Tryz.f143,Go.Proofs.Tryz.func143,rfl,rfl,rfl,by kernel_rfl⟩
theorem zr:aY Go.Proofs.Tryz.prog 144 wK:=⟨Go.Proofs.Tryz.f144,Go.Proofs.Tryz.func144,rfl,rfl,rfl,by kernel_rfl⟩
theorem zN:aY Go.Proofs.Tryz.prog 145 B5:=⟨Go.Proofs.Tryz.f145,Go.Proofs.Tryz.func145,rfl,rfl,rfl,by kernel_rfl⟩
theorem yH:aY Go.Proofs.Tryz.prog 146 yy:=⟨Go.Proofs.Tryz.f146,Go.Proofs.Tryz.func146,rfl,rfl,rfl,by kernel_rfl⟩
theorem zZ:aY Go.Proofs.Tryz.prog 147 zn:=⟨Go.Proofs.Tryz.f147,Go.Proofs.Tryz.func147,rfl,rfl,rfl,by kernel_rfl⟩
theorem zq:aY Go.Proofs.Tryz.prog 148 C2:=⟨Go.Proofs.Tryz.f148,Go.Proofs.Tryz.func148,rfl,rfl,rfl,by kernel_rfl⟩
theorem Aa:aY Go.Proofs.Tryz.prog 149 yN:=⟨Go.Proofs.Tryz.f149,Go.Proofs.Tryz.func149,rfl,rfl,rfl,by kernel_rfl⟩
theorem y8:aY Go.Proofs.Tryz.prog 150 wu:=⟨Go.Proofs.Tryz.f150,Go.Proofs.Tryz.func150,rfl,rfl,rfl,by kernel_rfl⟩
theorem Ao:aY Go.Proofs.Tryz.prog 152 Cj:=⟨Go.Proofs.Tryz.f152,Go.Proofs.Tryz.func152,rfl,rfl,rfl,by kernel_rfl⟩
theorem zy:aY Go.Proofs.Tryz.prog 155 Cb:=⟨Go.Proofs.Tryz.f155,Go.Proofs.Tryz.func155,rfl,rfl,rfl,by kernel_rfl⟩
theorem zE:aY Go.Proofs.Tryz.prog 156 CC:=⟨Go.Proofs.Tryz.f156,Go.Proofs.Tryz.func156,rfl,rfl,rfl,by kernel_rfl⟩
theorem zD:aY Go.Proofs.Tryz.prog 157 uK:=⟨Go.Proofs.Tryz.f157,Go.Proofs.Tryz.func157,rfl,rfl,rfl,by kernel_rfl⟩
theorem y6:aY Go.Proofs.Tryz.prog 158 Df:=⟨Go.Proofs.Tryz.f158,Go.Proofs.Tryz.func158,rfl,rfl,rfl,by kernel_rfl⟩
theorem yZ:aY Go.Proofs.Tryz.prog 172 yX:=⟨Go.Proofs.Tryz.f172,Go.Proofs.Tryz.func172,rfl,rfl,rfl,by kernel_rfl⟩
theorem zB:aY Go.Proofs.Tryz.prog 173 CZ:=⟨Go.Proofs.Tryz.f173,Go.Proofs.Tryz.func173,rfl,rfl,rfl,by kernel_rfl⟩
theorem zf:aY Go.Proofs.Tryz.prog 174 CL:=⟨Go.Proofs.Tryz.f174,Go.Proofs.Tryz.func174,rfl,rfl,rfl,by kernel_rfl⟩
theorem yK:aY Go.Proofs.Tryz.prog 175 CB:=⟨Go.Proofs.Tryz.f175,Go.Proofs.Tryz.func175,rfl,rfl,rfl,by kernel_rfl⟩
theorem Ag:aY Go.Proofs.Tryz.prog 176 AB:=⟨Go.Proofs.Tryz.f176,Go.Proofs.Tryz.func176,rfl,rfl,rfl,by kernel_rfl⟩
theorem yF:aY Go.Proofs.Tryz.prog 177 CU:=⟨Go.Proofs.Tryz.f177,Go.Proofs.Tryz.func177,rfl,rfl,rfl,by kernel_rfl⟩
theorem zV:aY Go.Proofs.Tryz.prog 178 Ci:=⟨Go.Proofs.Tryz.f178,Go.Proofs.Tryz.func178,rfl,rfl,rfl,by kernel_rfl⟩
theorem yI:aY Go.Proofs.Tryz.prog 179 CX:=⟨Go.Proofs.Tryz.f179,Go.Proofs.Tryz.func179,rfl,rfl,rfl,by kernel_rfl⟩
theorem zb:aY Go.Proofs.Tryz.prog 180 Cd:=⟨Go.Proofs.Tryz.f180,Go.Proofs.Tryz.func180,rfl,rfl,rfl,by kernel_rfl⟩
theorem zG:aY Go.Proofs.Tryz.prog 181 yV:=⟨Go.Proofs.Tryz.f181,Go.Proofs.Tryz.func181,rfl,rfl,rfl,by kernel_rfl⟩
theorem yu:aY Go.Proofs.Tryz.prog 187 CH:=⟨Go.Proofs.Tryz.f187,Go.Proofs.Tryz.func187,rfl,rfl,rfl,by kernel_rfl⟩
theorem yC:aY Go.Proofs.Tryz.prog 192 AC:=⟨Go.Proofs.Tryz.f192,Go.Proofs.Tryz.func192,rfl,rfl,rfl,by kernel_rfl⟩
theorem Ah:aY Go.Proofs.Tryz.prog 198 CQ:=⟨Go.Proofs.Tryz.f198,Go.Proofs.Tryz.func198,rfl,rfl,rfl,by kernel_rfl⟩
theorem Dx:yB (aY Go.Proofs.Tryz.prog) Gk:=⟨BJ,A5,Bi,Bj,Bh,BP,BF,BG,Bf,Bq,BV,Bn,Bz,AU,AY,AH,A1,AM,Bm,BO,Bl,BD,Ba,AE,Bd,Bc,Bw,Bv,BL,BR,yq,Af,y7,zw,Aw,yr,Ap,zp,yn,yp,zF,zc,zi,Ae,yD,zU,yE,zr,zN,yH,zZ,zq,Aa,y8,Ao,zy,zE,zD,y6,yZ,zB,zf,yK,Ag,yF,zV,yI,zb,zG,yu,yC,Ah,trivial⟩
theorem mixed:(Go.Proofs.Tryz.prog).follows .mixedOrders=true:=by kernel_rfl
theorem Dt (f:FuncId)(args:List kh)(r:(ow f).den)(h:Av f args=some r):fj Go.Proofs.Tryz.prog aa ow f args r:=by
 unfold Av at h
 by_cases e105:f=105
 ·subst e105
  rw [dif_pos rfl] at h
  exact BZ (by kernel_rfl) ⟨Go.Proofs.Tryz.f105,Go.Proofs.Tryz.func105,rfl,by kernel_rfl⟩ Go.Proofs.Tryz.strconv_Atoi_ok Go.Proofs.Tryz.strconv_Atoi_syntax_var Go.Proofs.Tryz.strconv_Atoi_range_var (fun _ h=>h.1) (fun _ h=>h.2.1) h HEq.rfl
 rw [dif_neg e105] at h
 by_cases e159:f=159
 ·subst e159
  rw [dif_pos rfl] at h
  exact AO (by kernel_rfl) ⟨Go.Proofs.Tryz.f159,Go.Proofs.Tryz.func159,rfl,by kernel_rfl⟩ Go.Proofs.Tryz.strconv_Itoa (fun _ h=>h.2.2.1) h HEq.rfl
 rw [dif_neg e159] at h
 by_cases e193:f=193
 ·subst e193
  rw [dif_pos rfl] at h
  exact uX (by kernel_rfl) ⟨Go.Proofs.Tryz.f193,Go.Proofs.Tryz.func193,rfl,by kernel_rfl⟩ Go.Proofs.Tryz.strings_Cut (fun _ h=>As zL h.2.2.2) h HEq.rfl
 rw [dif_neg e193] at h
 cases h
theorem Dv (f:Nat):(E aS).pks f=match look f E4 with|some l=>l|none=>[]:=by
 show zX f=_
 unfold zX
 cases look f E4<;>rfl
theorem DO:qo 55 59 91 5 E4=true:=by kernel_rfl
theorem zP:zW Go.Proofs.Tryz.prog 55 91 (aa (.int .u8)):=yt Go.Proofs.Tryz.laysB166 Go.Proofs.Tryz.Builder_Extra_B ⟨Go.Proofs.Tryz.f55,Go.Proofs.Tryz.func55,rfl,by kernel_rfl⟩
theorem xe:zO Go.Proofs.Tryz.prog 59 91 5:=xq Go.Proofs.Tryz.laysB169 Go.Proofs.Tryz.Builder_Extra_B ⟨Go.Proofs.Tryz.f59,Go.Proofs.Tryz.func59,rfl,by kernel_rfl⟩
theorem Dy:rB Go.Proofs.Tryz.prog aa (E aS):=rB.bld (fun T i h=>(pV Ec).look T i h) (pks:=E4) Dv DO zP xe rfl
theorem lv_ok (k:Nat):ir Go.Proofs.Tryz.prog aa ow (db (E aS) k):=
 DV (E:=E aS) Dy (fun _ _=>rfl) (fun f fi h=>Dx.look f fi h) (fun f args r _ h=>Dt f args r h) mixed k
end Go.Proofs.YtjkokaockhecnaaGreatDoorA
