/- The program is what the machine is told of it, so that what the machine answers of a call is what the program answers; no condition. -/
import Derived.Test.YtjkokaockhecnaaGreatDoorExt3
import Derived.Test.YtjkokaockhecnaaGreatDoorBld4
import Derived.Test.YtjkokaockhecnaaGreatDoorShelf
import Derived.Test.YtjkokaockhecnaaGreatDoorEnv
namespace Go.Proofs.YtjkokaockhecnaaGreatDoorA
open Go
set_option linter.unusedVariables false
def A6 (t:El):Nat:=
 match t with
 |.int .i64=>3
 |.bool=>4
 |.int .u8=>5
 |.str=>9
 |.node=>58
 |_=>0
def Tabs (w:World):Prop:=SentIs Go.Proofs.Tryz.prog w "strconv.ErrSyntax" ∧SentIs Go.Proofs.Tryz.prog w "strconv.ErrRange" ∧Lib.TabIs Go.Proofs.Tryz.prog w "internal/strconv.uint64pow10" .u64 Lib.pow10Tab∧IntIs Go.Proofs.Tryz.prog w "internal/bytealg.MaxLen"
theorem yU:(Go.Proofs.Tryz.prog).globalNamed "strconv.ErrSyntax" =some 0:=by kernel_rfl
theorem zr:(Go.Proofs.Tryz.prog).globalNamed "strconv.ErrRange" =some 1:=by kernel_rfl
theorem y7:(Go.Proofs.Tryz.prog).globalNamed "internal/strconv.uint64pow10" =some 2:=by kernel_rfl
theorem wZ:(Go.Proofs.Tryz.prog).globalNamed "internal/bytealg.MaxLen" =some 3:=by kernel_rfl
def aa:aK:=⟨A6,[0,1,2,3],Tabs,fun w w' q h=>⟨mQ yU (q 0 (by decide)) h.1,mQ zr (q 1 (by decide)) h.2.1,sJ y7 (q 2 (by decide)) h.2.2.1,s9 wZ (q 3 (by decide)) h.2.2.2⟩⟩
theorem tabs_ok {W:World}(h:Tabs W):fN aa W ⟨fun _ _=>.imm,fun _ _=>.slice none 0 0,fun _=>(0,0)⟩:=by
 refine ⟨h,fun b hb=>⟨?_,fun _=>rfl⟩⟩
 have hb':b∈[0,1,2,3]:=hb
 simp only [List.mem_cons,List.not_mem_nil,or_false] at hb'
 rcases hb' with e|e|e|e
 ·rw [e];exact t8 yU h.1
 ·rw [e];exact t8 zr h.2.1
 ·rw [e];exact zL y7 h.2.2.1
 ·rw [e];exact Aa wZ h.2.2.2
theorem zZ:uh Go.Proofs.Tryz.prog aa CV=true:=by kernel_rfl
theorem Ae:aP Go.Proofs.Tryz.prog 6 Cb:=⟨Go.Proofs.Tryz.f6,Go.Proofs.Tryz.func6,rfl,rfl,rfl,by kernel_rfl⟩
theorem yr:aP Go.Proofs.Tryz.prog 20 Bv:=⟨Go.Proofs.Tryz.f20,Go.Proofs.Tryz.func20,rfl,rfl,rfl,by kernel_rfl⟩
theorem yL:aP Go.Proofs.Tryz.prog 21 BV:=⟨Go.Proofs.Tryz.f21,Go.Proofs.Tryz.func21,rfl,rfl,rfl,by kernel_rfl⟩
theorem yk:aP Go.Proofs.Tryz.prog 22 xN:=⟨Go.Proofs.Tryz.f22,Go.Proofs.Tryz.func22,rfl,rfl,rfl,by kernel_rfl⟩
theorem xC:aP Go.Proofs.Tryz.prog 24 Ax:=⟨Go.Proofs.Tryz.f24,Go.Proofs.Tryz.func24,rfl,rfl,rfl,by kernel_rfl⟩
theorem x4:aP Go.Proofs.Tryz.prog 26 AN:=⟨Go.Proofs.Tryz.f26,Go.Proofs.Tryz.func26,rfl,rfl,rfl,by kernel_rfl⟩
theorem xU:aP Go.Proofs.Tryz.prog 28 AE:=⟨Go.Proofs.Tryz.f28,Go.Proofs.Tryz.func28,rfl,rfl,rfl,by kernel_rfl⟩
theorem yy:aP Go.Proofs.Tryz.prog 29 Bw:=⟨Go.Proofs.Tryz.f29,Go.Proofs.Tryz.func29,rfl,rfl,rfl,by kernel_rfl⟩
theorem yN:aP Go.Proofs.Tryz.prog 38 BB:=⟨Go.Proofs.Tryz.f38,Go.Proofs.Tryz.func38,rfl,rfl,rfl,by kernel_rfl⟩
theorem yJ:aP Go.Proofs.Tryz.prog 52 zU:=⟨Go.Proofs.Tryz.f52,Go.Proofs.Tryz.func52,rfl,rfl,rfl,by kernel_rfl⟩
theorem x1:aP Go.Proofs.Tryz.prog 53 zN:=⟨Go.Proofs.Tryz.f53,Go.Proofs.Tryz.func53,rfl,rfl,rfl,by kernel_rfl⟩
theorem x2:aP Go.Proofs.Tryz.prog 54 A2:=⟨Go.Proofs.Tryz.f54,Go.Proofs.Tryz.func54,rfl,rfl,rfl,by kernel_rfl⟩
theorem yD:aP Go.Proofs.Tryz.prog 56 Bd:=⟨Go.Proofs.Tryz.f56,Go.Proofs.Tryz.func56,rfl,rfl,rfl,by kernel_rfl⟩
theorem yt:aP Go.Proofs.Tryz.prog 57 By:=⟨Go.Proofs.Tryz.f57,Go.Proofs.Tryz.func57,rfl,rfl,rfl,by kernel_rfl⟩
theorem xH:aP Go.Proofs.Tryz.prog 58 yM:=⟨Go.Proofs.Tryz.f58,Go.Proofs.Tryz.func58,rfl,rfl,rfl,by kernel_rfl⟩
theorem yg:aP Go.Proofs.Tryz.prog 64 BP:=⟨Go.Proofs.Tryz.f64,Go.Proofs.Tryz.func64,rfl,rfl,rfl,by kernel_rfl⟩
theorem xK:aP Go.Proofs.Tryz.prog 65 Bm:=⟨Go.Proofs.Tryz.f65,Go.Proofs.Tryz.func65,rfl,rfl,rfl,by kernel_rfl⟩
theorem ye:aP Go.Proofs.Tryz.prog 66 BM:=⟨Go.Proofs.Tryz.f66,Go.Proofs.Tryz.func66,rfl,rfl,rfl,by kernel_rfl⟩
theorem yb:aP Go.Proofs.Tryz.prog 67 AZ:=⟨Go.Proofs.Tryz.f67,Go.Proofs.Tryz.func67,rfl,rfl,rfl,by kernel_rfl⟩
theorem xE:aP Go.Proofs.Tryz.prog 68 Br:=⟨Go.Proofs.Tryz.f68,Go.Proofs.Tryz.func68,rfl,rfl,rfl,by kernel_rfl⟩
theorem xF:aP Go.Proofs.Tryz.prog 69 BU:=⟨Go.Proofs.Tryz.f69,Go.Proofs.Tryz.func69,rfl,rfl,rfl,by kernel_rfl⟩
theorem yA:aP Go.Proofs.Tryz.prog 70 zE:=⟨Go.Proofs.Tryz.f70,Go.Proofs.Tryz.func70,rfl,rfl,rfl,by kernel_rfl⟩
theorem yq:aP Go.Proofs.Tryz.prog 71 AC:=⟨Go.Proofs.Tryz.f71,Go.Proofs.Tryz.func71,rfl,rfl,rfl,by kernel_rfl⟩
theorem yj:aP Go.Proofs.Tryz.prog 76 AB:=⟨Go.Proofs.Tryz.f76,Go.Proofs.Tryz.func76,rfl,rfl,rfl,by kernel_rfl⟩
theorem yu:aP Go.Proofs.Tryz.prog 78 AA:=⟨Go.Proofs.Tryz.f78,Go.Proofs.Tryz.func78,rfl,rfl,rfl,by kernel_rfl⟩
theorem xO:aP Go.Proofs.Tryz.prog 89 A4:=⟨Go.Proofs.Tryz.f89,Go.Proofs.Tryz.func89,rfl,rfl,rfl,by kernel_rfl⟩
theorem yE:aP Go.Proofs.Tryz.prog 97 zY:=⟨Go.Proofs.Tryz.f97,Go.Proofs.Tryz.func97,rfl,rfl,rfl,by kernel_rfl⟩
theorem yw:aP Go.Proofs.Tryz.prog 98 Bn:=⟨Go.Proofs.Tryz.f98,Go.Proofs.Tryz.func98,rfl,rfl,rfl,by kernel_rfl⟩
theorem xJ:aP Go.Proofs.Tryz.prog 99 Ag:=⟨Go.Proofs.Tryz.f99,Go.Proofs.Tryz.func99,rfl,rfl,rfl,by kernel_rfl⟩
theorem xa:aP Go.Proofs.Tryz.prog 100 ze:=⟨Go.Proofs.Tryz.f100,Go.Proofs.Tryz.func100,rfl,rfl,rfl,by kernel_rfl⟩
theorem wB:aP Go.Proofs.Tryz.prog 101 wY:=⟨Go.Proofs.Tryz.f101,Go.Proofs.Tryz.func101,rfl,rfl,rfl,by kernel_rfl⟩
theorem vK:aP Go.Proofs.Tryz.prog 102 vw:=⟨Go.Proofs.Tryz.f102,Go.Proofs.Tryz.func102,rfl,rfl,rfl,by kernel_rfl⟩
theorem wE:aP Go.Proofs.Tryz.prog 104 zf:=⟨Go.Proofs.Tryz.f104,Go.Proofs.Tryz.func104,rfl,rfl,rfl,by kernel_rfl⟩
theorem vI:aP Go.Proofs.Tryz.prog 111 zm:=⟨Go.Proofs.Tryz.f111,Go.Proofs.Tryz.func111,rfl,rfl,rfl,by kernel_rfl⟩
theorem vn:aP Go.Proofs.Tryz.prog 112 zt:=⟨Go.Proofs.Tryz.f112,Go.Proofs.Tryz.func112,rfl,rfl,rfl,by kernel_rfl⟩
theorem wG:aP Go.Proofs.Tryz.prog 113 zy:=⟨Go.Proofs.Tryz.f113,Go.Proofs.Tryz.func113,rfl,rfl,rfl,by kernel_rfl⟩
theorem wo:aP Go.Proofs.Tryz.prog 114 zz:=⟨Go.Proofs.Tryz.f114,Go.Proofs.Tryz.func114,rfl,rfl,rfl,by kernel_rfl⟩
theorem vT:aP Go.Proofs.Tryz.prog 115 yW:=⟨Go.Proofs.Tryz.f115,Go.Proofs.Tryz.func115,rfl,rfl,rfl,by kernel_rfl⟩
theorem wH:aP Go.Proofs.Tryz.prog 117 zg:=⟨Go.Proofs.Tryz.f117,Go.Proofs.Tryz.func117,rfl,rfl,rfl,by kernel_rfl⟩
theorem ww:aP Go.Proofs.Tryz.prog 118 y6:=⟨Go.Proofs.Tryz.f118,Go.Proofs.Tryz.func118,rfl,rfl,rfl,by kernel_rfl⟩
theorem wy:aP Go.Proofs.Tryz.prog 119 zb:=⟨Go.Proofs.Tryz.f119,Go.Proofs.Tryz.func119,rfl,rfl,rfl,by kernel_rfl⟩
theorem vE:aP Go.Proofs.Tryz.prog 120 zA:=⟨Go.Proofs.Tryz.f120,Go.Proofs.Tryz.func120,rfl,rfl,rfl,by kernel_rfl⟩
theorem wv:aP Go.Proofs.Tryz.prog 121 zn:=⟨Go.Proofs.Tryz.f121,Go.Proofs.Tryz.func121,rfl,rfl,rfl,by kernel_rfl⟩
theorem vL:aP Go.Proofs.Tryz.prog 128 zj:=⟨Go.Proofs.Tryz.f128,Go.Proofs.Tryz.func128,rfl,rfl,rfl,by kernel_rfl⟩
theorem wk:aP Go.Proofs.Tryz.prog 129 yY:=⟨Go.Proofs.Tryz.f129,Go.Proofs.Tryz.func129,rfl,rfl,rfl,by kernel_rfl⟩
theorem wh:aP Go.Proofs.Tryz.prog 141 zl:=⟨Go.Proofs.Tryz.f141,Go.Proofs.Tryz.func141,rfl,rfl,rfl,by kernel_rfl⟩
theorem xu:aP Go.Proofs.Tryz.prog 142 za:=⟨Go.Proofs.Tryz.f142,Go.Proofs.Tryz.func142,rfl,rfl,rfl,by kernel_rfl⟩
theorem wi:aP Go.Proofs.Tryz.prog 143 yV:=⟨Go.Proofs.Tryz.f143,Go.Proofs.Tryz.func143,rfl,rfl,rfl,by kernel_rfl⟩
theorem wT:aP Go.Proofs.Tryz.prog 144 tO:=⟨Go.Proofs.Tryz.f144,Go.Proofs.Tryz.func144,rfl,rfl,rfl,by kernel_rfl⟩
theorem vR:aP Go.Proofs.Tryz.prog 145 y8:=⟨Go.Proofs.Tryz.f145,Go.Proofs.Tryz.func145,rfl,rfl,rfl,by kernel_rfl⟩
theorem vZ:aP Go.Proofs.Tryz.prog 146 xw:=⟨Go.Proofs.Tryz.f146,Go.Proofs.Tryz.func146,rfl,rfl,rfl,by kernel_rfl⟩
theorem vQ:aP Go.Proofs.Tryz.prog 147 xt:=⟨Go.Proofs.Tryz.f147,Go.Proofs.Tryz.func147,rfl,rfl,rfl,by kernel_rfl⟩
theorem wm:aP Go.Proofs.Tryz.prog 148 yX:=⟨Go.Proofs.Tryz.f148,Go.Proofs.Tryz.func148,rfl,rfl,rfl,by kernel_rfl⟩
theorem vJ:aP Go.Proofs.Tryz.prog 149 vt:=⟨Go.Proofs.Tryz.f149,Go.Proofs.Tryz.func149,rfl,rfl,rfl,by kernel_rfl⟩
theorem wn:aP Go.Proofs.Tryz.prog 150 tQ:=⟨Go.Proofs.Tryz.f150,Go.Proofs.Tryz.func150,rfl,rfl,rfl,by kernel_rfl⟩
theorem vA:aP Go.Proofs.Tryz.prog 152 yQ:=⟨Go.Proofs.Tryz.f152,Go.Proofs.Tryz.func152,rfl,rfl,rfl,by kernel_rfl⟩
theorem vV:aP Go.Proofs.Tryz.prog 155 y4:=⟨Go.Proofs.Tryz.f155,Go.Proofs.Tryz.func155,rfl,rfl,rfl,by kernel_rfl⟩
theorem wx:aP Go.Proofs.Tryz.prog 156 zx:=⟨Go.Proofs.Tryz.f156,Go.Proofs.Tryz.func156,rfl,rfl,rfl,by kernel_rfl⟩
theorem xj:aP Go.Proofs.Tryz.prog 157 zq:=⟨Go.Proofs.Tryz.f157,Go.Proofs.Tryz.func157,rfl,rfl,rfl,by kernel_rfl⟩
theorem vN:aP Go.Proofs.Tryz.prog 158 zC:=⟨Go.Proofs.Tryz.f158,Go.Proofs.Tryz.func158,rfl,rfl,rfl,by kernel_rfl⟩
theorem wz:aP Go.Proofs.Tryz.prog 172 wt:=⟨Go.Proofs.Tryz.f172,Go.Proofs.Tryz.func172,rfl,rfl,rfl,by kernel_rfl⟩
theorem vS:aP Go.Proofs.Tryz.prog 173 y3:=⟨Go.Proofs.Tryz.f173,Go.Proofs.Tryz.func173,rfl,rfl,rfl,by kernel_rfl⟩
theorem wO:aP Go.Proofs.Tryz.prog 174 yT:=⟨Go.Proofs.Tryz.f174,Go.Proofs.Tryz.func174,rfl,rfl,rfl,by kernel_rfl⟩
theorem wj:aP Go.Proofs.Tryz.prog 175 zh:=⟨Go.Proofs.Tryz.f175,Go.Proofs.Tryz.func175,rfl,rfl,rfl,by kernel_rfl⟩
theorem xB:aP Go.Proofs.Tryz.prog 176 xl:=⟨Go.Proofs.Tryz.f176,Go.Proofs.Tryz.func176,rfl,rfl,rfl,by kernel_rfl⟩
theorem vU:aP Go.Proofs.Tryz.prog 177 y5:=⟨Go.Proofs.Tryz.f177,Go.Proofs.Tryz.func177,rfl,rfl,rfl,by kernel_rfl⟩
theorem vD:aP Go.Proofs.Tryz.prog 178 zd:=⟨Go.Proofs.Tryz.f178,Go.Proofs.Tryz.func178,rfl,rfl,rfl,by kernel_rfl⟩
theorem wV:aP Go.Proofs.Tryz.prog 179 yS:=⟨Go.Proofs.Tryz.f179,Go.Proofs.Tryz.func179,rfl,rfl,rfl,by kernel_rfl⟩
theorem xq:aP Go.Proofs.Tryz.prog 180 y0:=⟨Go.Proofs.Tryz.f180,Go.Proofs.Tryz.func180,rfl,rfl,rfl,by kernel_rfl⟩
theorem xx:aP Go.Proofs.Tryz.prog 181 vW:=⟨Go.Proofs.Tryz.f181,Go.Proofs.Tryz.func181,rfl,rfl,rfl,by kernel_rfl⟩
theorem wu:aP Go.Proofs.Tryz.prog 187 zk:=⟨Go.Proofs.Tryz.f187,Go.Proofs.Tryz.func187,rfl,rfl,rfl,by kernel_rfl⟩
theorem vO:aP Go.Proofs.Tryz.prog 192 xn:=⟨Go.Proofs.Tryz.f192,Go.Proofs.Tryz.func192,rfl,rfl,rfl,by kernel_rfl⟩
theorem vY:aP Go.Proofs.Tryz.prog 198 yP:=⟨Go.Proofs.Tryz.f198,Go.Proofs.Tryz.func198,rfl,rfl,rfl,by kernel_rfl⟩
theorem zM:xh (aP Go.Proofs.Tryz.prog) CW:=⟨Ae,yr,yL,yk,xC,x4,xU,yy,yN,yJ,x1,x2,yD,yt,xH,yg,xK,ye,yb,xE,xF,yA,yq,yj,yu,xO,yE,yw,xJ,xa,wB,vK,wE,vI,vn,wG,wo,vT,wH,ww,wy,vE,wv,vL,wk,wh,xu,wi,wT,vR,vZ,vQ,wm,vJ,wn,vA,vV,wx,xj,vN,wz,vS,wO,wj,xB,vU,vD,wV,xq,xx,wu,vO,vY,trivial⟩
theorem mixed:(Go.Proofs.Tryz.prog).follows .mixedOrders=true:=by kernel_rfl
theorem zX (f:FuncId)(args:List jg)(r:(mf f).den)(h:wJ f args=some r):eB Go.Proofs.Tryz.prog aa mf f args r:=by
 unfold wJ at h
 by_cases e105:f=105
 ·subst e105
  rw [dif_pos rfl] at h
  exact x5 (by kernel_rfl) ⟨Go.Proofs.Tryz.f105,Go.Proofs.Tryz.func105,rfl,by kernel_rfl⟩ Go.Proofs.Tryz.strconv_Atoi_ok Go.Proofs.Tryz.strconv_Atoi_syntax_var Go.Proofs.Tryz.strconv_Atoi_range_var (fun _ h=>h.1) (fun _ h=>h.2.1) h HEq.rfl
 rw [dif_neg e105] at h
 by_cases e159:f=159
 ·subst e159
  rw [dif_pos rfl] at h
  exact yz (by kernel_rfl) ⟨Go.Proofs.Tryz.f159,Go.Proofs.Tryz.func159,rfl,by kernel_rfl⟩ Go.Proofs.Tryz.strconv_Itoa (fun _ h=>h.2.2.1) h HEq.rfl
 rw [dif_neg e159] at h
 by_cases e193:f=193
 ·subst e193
  rw [dif_pos rfl] at h
  exact zV (by kernel_rfl) ⟨Go.Proofs.Tryz.f193,Go.Proofs.Tryz.func193,rfl,by kernel_rfl⟩ Go.Proofs.Tryz.strings_Cut (fun _ h=>vP wZ h.2.2.2) h HEq.rfl
 rw [dif_neg e193] at h
 cases h
theorem zO (f:Nat):(E bK).pks f=match look f AM with|some l=>l|none=>[]:=by
 show xz f=_
 unfold xz
 cases look f AM<;>rfl
theorem Ab:ov 55 59 91 5 AM=true:=by kernel_rfl
theorem wN:wL Go.Proofs.Tryz.prog 55 91 (aa (.int .u8)):=vM Go.Proofs.Tryz.laysB166 Go.Proofs.Tryz.Builder_Extra_B ⟨Go.Proofs.Tryz.f55,Go.Proofs.Tryz.func55,rfl,by kernel_rfl⟩
theorem uN:vF Go.Proofs.Tryz.prog 59 91 5:=vb Go.Proofs.Tryz.laysB169 Go.Proofs.Tryz.Builder_Extra_B ⟨Go.Proofs.Tryz.f59,Go.Proofs.Tryz.func59,rfl,by kernel_rfl⟩
theorem Aj:py Go.Proofs.Tryz.prog aa (E bK):=py.bld (fun T i h=>(oI zZ).look T i h) (pks:=AM) zO Ab wN uN rfl
theorem lv_ok (k:Nat):gj Go.Proofs.Tryz.prog aa mf (ej (E bK) k):=
 zW (E:=E bK) Aj (fun _ _=>rfl) (fun f fi h=>zM.look f fi h) (fun f args r _ h=>zX f args r h) mixed k
end Go.Proofs.YtjkokaockhecnaaGreatDoorA
