/- The program is what the machine is told of it, so that what the machine answers of a call is what the program answers; no condition. -/
import Derived.Test.YtjkokaockhecnaaGreatDoorExt3
import Derived.Test.YtjkokaockhecnaaGreatDoorBld4
import Derived.Test.YtjkokaockhecnaaGreatDoorShelf
import Derived.Test.YtjkokaockhecnaaGreatDoorEnv
namespace Go.Proofs.YtjkokaockhecnaaGreatDoorA
open Go
set_option linter.unusedVariables false
def FZ (t:El):Nat:=
 match t with
 |.int .i64=>3
 |.bool=>4
 |.int .u8=>5
 |.str=>9
 |.node=>58
 |_=>0
def Tabs (w:World):Prop:=SentIs Go.Proofs.Tryz.prog w "strconv.ErrSyntax" ∧SentIs Go.Proofs.Tryz.prog w "strconv.ErrRange" ∧Lib.TabIs Go.Proofs.Tryz.prog w "internal/strconv.uint64pow10" .u64 Lib.pow10Tab∧IntIs Go.Proofs.Tryz.prog w "internal/bytealg.MaxLen"
theorem CV:(Go.Proofs.Tryz.prog).globalNamed "strconv.ErrSyntax" =some 0:=by kernel_rfl
theorem CH:(Go.Proofs.Tryz.prog).globalNamed "strconv.ErrRange" =some 1:=by kernel_rfl
theorem C6:(Go.Proofs.Tryz.prog).globalNamed "internal/strconv.uint64pow10" =some 2:=by kernel_rfl
theorem AI:(Go.Proofs.Tryz.prog).globalNamed "internal/bytealg.MaxLen" =some 3:=by kernel_rfl
def aa:aM:=⟨FZ,[0,1,2,3],Tabs,fun w w' q h=>⟨ny CV (q 0 (by decide)) h.1,ny CH (q 1 (by decide)) h.2.1,uW C6 (q 2 (by decide)) h.2.2.1,vG AI (q 3 (by decide)) h.2.2.2⟩⟩
theorem tabs_ok {W:World}(h:Tabs W):gR aa W ⟨fun _ _=>.imm,fun _ _=>.slice none 0 0,fun _=>(0,0)⟩:=by
 refine ⟨h,fun b hb=>⟨?_,fun _=>rfl⟩⟩
 have hb':b∈[0,1,2,3]:=hb
 simp only [List.mem_cons,List.not_mem_nil,or_false] at hb'
 rcases hb' with e|e|e|e
 ·rw [e];exact wc CV h.1
 ·rw [e];exact wc CH h.2.1
 ·rw [e];exact Ei C6 h.2.2.1
 ·rw [e];exact D3 AI h.2.2.2
theorem Ep:wL Go.Proofs.Tryz.prog aa GI=true:=by kernel_rfl
theorem D2:aW Go.Proofs.Tryz.prog 5 Gk:=⟨Go.Proofs.Tryz.f5,Go.Proofs.Tryz.func5,rfl,rfl,rfl,by kernel_rfl⟩
theorem Bl:aW Go.Proofs.Tryz.prog 20 FY:=⟨Go.Proofs.Tryz.f20,Go.Proofs.Tryz.func20,rfl,rfl,rfl,by kernel_rfl⟩
theorem BR:aW Go.Proofs.Tryz.prog 22 Cc:=⟨Go.Proofs.Tryz.f22,Go.Proofs.Tryz.func22,rfl,rfl,rfl,by kernel_rfl⟩
theorem Bf:aW Go.Proofs.Tryz.prog 24 EA:=⟨Go.Proofs.Tryz.f24,Go.Proofs.Tryz.func24,rfl,rfl,rfl,by kernel_rfl⟩
theorem BM:aW Go.Proofs.Tryz.prog 26 EP:=⟨Go.Proofs.Tryz.f26,Go.Proofs.Tryz.func26,rfl,rfl,rfl,by kernel_rfl⟩
theorem BV:aW Go.Proofs.Tryz.prog 28 FU:=⟨Go.Proofs.Tryz.f28,Go.Proofs.Tryz.func28,rfl,rfl,rfl,by kernel_rfl⟩
theorem BB:aW Go.Proofs.Tryz.prog 29 F4:=⟨Go.Proofs.Tryz.f29,Go.Proofs.Tryz.func29,rfl,rfl,rfl,by kernel_rfl⟩
theorem A7:aW Go.Proofs.Tryz.prog 38 D9:=⟨Go.Proofs.Tryz.f38,Go.Proofs.Tryz.func38,rfl,rfl,rfl,by kernel_rfl⟩
theorem Ci:aW Go.Proofs.Tryz.prog 52 DK:=⟨Go.Proofs.Tryz.f52,Go.Proofs.Tryz.func52,rfl,rfl,rfl,by kernel_rfl⟩
theorem Bt:aW Go.Proofs.Tryz.prog 53 Eb:=⟨Go.Proofs.Tryz.f53,Go.Proofs.Tryz.func53,rfl,rfl,rfl,by kernel_rfl⟩
theorem BP:aW Go.Proofs.Tryz.prog 54 FI:=⟨Go.Proofs.Tryz.f54,Go.Proofs.Tryz.func54,rfl,rfl,rfl,by kernel_rfl⟩
theorem BI:aW Go.Proofs.Tryz.prog 56 FQ:=⟨Go.Proofs.Tryz.f56,Go.Proofs.Tryz.func56,rfl,rfl,rfl,by kernel_rfl⟩
theorem B9:aW Go.Proofs.Tryz.prog 57 Ft:=⟨Go.Proofs.Tryz.f57,Go.Proofs.Tryz.func57,rfl,rfl,rfl,by kernel_rfl⟩
theorem Bz:aW Go.Proofs.Tryz.prog 58 BS:=⟨Go.Proofs.Tryz.f58,Go.Proofs.Tryz.func58,rfl,rfl,rfl,by kernel_rfl⟩
theorem BJ:aW Go.Proofs.Tryz.prog 64 E3:=⟨Go.Proofs.Tryz.f64,Go.Proofs.Tryz.func64,rfl,rfl,rfl,by kernel_rfl⟩
theorem AX:aW Go.Proofs.Tryz.prog 65 Eg:=⟨Go.Proofs.Tryz.f65,Go.Proofs.Tryz.func65,rfl,rfl,rfl,by kernel_rfl⟩
theorem BL:aW Go.Proofs.Tryz.prog 66 F8:=⟨Go.Proofs.Tryz.f66,Go.Proofs.Tryz.func66,rfl,rfl,rfl,by kernel_rfl⟩
theorem Bn:aW Go.Proofs.Tryz.prog 67 Bv:=⟨Go.Proofs.Tryz.f67,Go.Proofs.Tryz.func67,rfl,rfl,rfl,by kernel_rfl⟩
theorem B8:aW Go.Proofs.Tryz.prog 68 EI:=⟨Go.Proofs.Tryz.f68,Go.Proofs.Tryz.func68,rfl,rfl,rfl,by kernel_rfl⟩
theorem A4:aW Go.Proofs.Tryz.prog 69 Fh:=⟨Go.Proofs.Tryz.f69,Go.Proofs.Tryz.func69,rfl,rfl,rfl,by kernel_rfl⟩
theorem Br:aW Go.Proofs.Tryz.prog 70 Em:=⟨Go.Proofs.Tryz.f70,Go.Proofs.Tryz.func70,rfl,rfl,rfl,by kernel_rfl⟩
theorem By:aW Go.Proofs.Tryz.prog 71 Fe:=⟨Go.Proofs.Tryz.f71,Go.Proofs.Tryz.func71,rfl,rfl,rfl,by kernel_rfl⟩
theorem BA:aW Go.Proofs.Tryz.prog 76 Ej:=⟨Go.Proofs.Tryz.f76,Go.Proofs.Tryz.func76,rfl,rfl,rfl,by kernel_rfl⟩
theorem Cf:aW Go.Proofs.Tryz.prog 78 EQ:=⟨Go.Proofs.Tryz.f78,Go.Proofs.Tryz.func78,rfl,rfl,rfl,by kernel_rfl⟩
theorem B6:aW Go.Proofs.Tryz.prog 89 EW:=⟨Go.Proofs.Tryz.f89,Go.Proofs.Tryz.func89,rfl,rfl,rfl,by kernel_rfl⟩
theorem AZ:aW Go.Proofs.Tryz.prog 97 Et:=⟨Go.Proofs.Tryz.f97,Go.Proofs.Tryz.func97,rfl,rfl,rfl,by kernel_rfl⟩
theorem BE:aW Go.Proofs.Tryz.prog 98 ET:=⟨Go.Proofs.Tryz.f98,Go.Proofs.Tryz.func98,rfl,rfl,rfl,by kernel_rfl⟩
theorem B7:aW Go.Proofs.Tryz.prog 99 Ey:=⟨Go.Proofs.Tryz.f99,Go.Proofs.Tryz.func99,rfl,rfl,rfl,by kernel_rfl⟩
theorem yX:aW Go.Proofs.Tryz.prog 100 Di:=⟨Go.Proofs.Tryz.f100,Go.Proofs.Tryz.func100,rfl,rfl,rfl,by kernel_rfl⟩
theorem AE:aW Go.Proofs.Tryz.prog 101 yN:=⟨Go.Proofs.Tryz.f101,Go.Proofs.Tryz.func101,rfl,rfl,rfl,by kernel_rfl⟩
theorem zp:aW Go.Proofs.Tryz.prog 102 Ak:=⟨Go.Proofs.Tryz.f102,Go.Proofs.Tryz.func102,rfl,rfl,rfl,by kernel_rfl⟩
theorem za:aW Go.Proofs.Tryz.prog 104 CP:=⟨Go.Proofs.Tryz.f104,Go.Proofs.Tryz.func104,rfl,rfl,rfl,by kernel_rfl⟩
theorem zu:aW Go.Proofs.Tryz.prog 111 DC:=⟨Go.Proofs.Tryz.f111,Go.Proofs.Tryz.func111,rfl,rfl,rfl,by kernel_rfl⟩
theorem yP:aW Go.Proofs.Tryz.prog 112 Df:=⟨Go.Proofs.Tryz.f112,Go.Proofs.Tryz.func112,rfl,rfl,rfl,by kernel_rfl⟩
theorem yI:aW Go.Proofs.Tryz.prog 113 yG:=⟨Go.Proofs.Tryz.f113,Go.Proofs.Tryz.func113,rfl,rfl,rfl,by kernel_rfl⟩
theorem zI:aW Go.Proofs.Tryz.prog 114 C3:=⟨Go.Proofs.Tryz.f114,Go.Proofs.Tryz.func114,rfl,rfl,rfl,by kernel_rfl⟩
theorem zl:aW Go.Proofs.Tryz.prog 115 wi:=⟨Go.Proofs.Tryz.f115,Go.Proofs.Tryz.func115,rfl,rfl,rfl,by kernel_rfl⟩
theorem y7:aW Go.Proofs.Tryz.prog 117 CU:=⟨Go.Proofs.Tryz.f117,Go.Proofs.Tryz.func117,rfl,rfl,rfl,by kernel_rfl⟩
theorem zU:aW Go.Proofs.Tryz.prog 118 Dt:=⟨Go.Proofs.Tryz.f118,Go.Proofs.Tryz.func118,rfl,rfl,rfl,by kernel_rfl⟩
theorem zL:aW Go.Proofs.Tryz.prog 119 CX:=⟨Go.Proofs.Tryz.f119,Go.Proofs.Tryz.func119,rfl,rfl,rfl,by kernel_rfl⟩
theorem zJ:aW Go.Proofs.Tryz.prog 120 Db:=⟨Go.Proofs.Tryz.f120,Go.Proofs.Tryz.func120,rfl,rfl,rfl,by kernel_rfl⟩
theorem zk:aW Go.Proofs.Tryz.prog 121 Dk:=⟨Go.Proofs.Tryz.f121,Go.Proofs.Tryz.func121,rfl,rfl,rfl,by kernel_rfl⟩
theorem yt:aW Go.Proofs.Tryz.prog 128 Dw:=⟨Go.Proofs.Tryz.f128,Go.Proofs.Tryz.func128,rfl,rfl,rfl,by kernel_rfl⟩
theorem y3:aW Go.Proofs.Tryz.prog 129 DF:=⟨Go.Proofs.Tryz.f129,Go.Proofs.Tryz.func129,rfl,rfl,rfl,by kernel_rfl⟩
theorem AH:aW Go.Proofs.Tryz.prog 141 CO:=⟨Go.Proofs.Tryz.f141,Go.Proofs.Tryz.func141,rfl,rfl,rfl,by kernel_rfl⟩
theorem zy:aW Go.Proofs.Tryz.prog 142 Dh:=⟨Go.Proofs.Tryz.f142,Go.Proofs.Tryz.func142,rfl,rfl,rfl,by kernel_rfl⟩
theorem AK:aW Go.Proofs.Tryz.prog 143 Dm:=⟨Go.Proofs.Tryz.f143,Go.Proofs.Tryz.func143,rfl,rfl,rfl,by kernel_rfl⟩
theorem Au:aW Go.Proofs.Tryz.prog 144 wl:=⟨Go.Proofs.Tryz.f144,Go.Proofs.Tryz.func144,rfl,rfl,rfl,by kernel_rfl⟩
theorem yS:aW Go.Proofs.Tryz.prog 145 C5:=⟨Go.Proofs.Tryz.f145,Go.Proofs.Tryz.func145,rfl,rfl,rfl,by kernel_rfl⟩
theorem Ah:aW Go.Proofs.Tryz.prog 146 y6:=⟨Go.Proofs.Tryz.f146,Go.Proofs.Tryz.func146,rfl,rfl,rfl,by kernel_rfl⟩
theorem yV:aW Go.Proofs.Tryz.prog 147 zw:=⟨Go.Proofs.Tryz.f147,Go.Proofs.Tryz.func147,rfl,rfl,rfl,by kernel_rfl⟩
theorem zx:aW Go.Proofs.Tryz.prog 148 DD:=⟨Go.Proofs.Tryz.f148,Go.Proofs.Tryz.func148,rfl,rfl,rfl,by kernel_rfl⟩
theorem AA:aW Go.Proofs.Tryz.prog 149 yu:=⟨Go.Proofs.Tryz.f149,Go.Proofs.Tryz.func149,rfl,rfl,rfl,by kernel_rfl⟩
theorem yz:aW Go.Proofs.Tryz.prog 150 wU:=⟨Go.Proofs.Tryz.f150,Go.Proofs.Tryz.func150,rfl,rfl,rfl,by kernel_rfl⟩
theorem yH:aW Go.Proofs.Tryz.prog 152 Dy:=⟨Go.Proofs.Tryz.f152,Go.Proofs.Tryz.func152,rfl,rfl,rfl,by kernel_rfl⟩
theorem yx:aW Go.Proofs.Tryz.prog 155 Dq:=⟨Go.Proofs.Tryz.f155,Go.Proofs.Tryz.func155,rfl,rfl,rfl,by kernel_rfl⟩
theorem zb:aW Go.Proofs.Tryz.prog 156 Dz:=⟨Go.Proofs.Tryz.f156,Go.Proofs.Tryz.func156,rfl,rfl,rfl,by kernel_rfl⟩
theorem zq:aW Go.Proofs.Tryz.prog 157 tW:=⟨Go.Proofs.Tryz.f157,Go.Proofs.Tryz.func157,rfl,rfl,rfl,by kernel_rfl⟩
theorem zm:aW Go.Proofs.Tryz.prog 158 CJ:=⟨Go.Proofs.Tryz.f158,Go.Proofs.Tryz.func158,rfl,rfl,rfl,by kernel_rfl⟩
theorem Ag:aW Go.Proofs.Tryz.prog 172 AC:=⟨Go.Proofs.Tryz.f172,Go.Proofs.Tryz.func172,rfl,rfl,rfl,by kernel_rfl⟩
theorem yy:aW Go.Proofs.Tryz.prog 173 CN:=⟨Go.Proofs.Tryz.f173,Go.Proofs.Tryz.func173,rfl,rfl,rfl,by kernel_rfl⟩
theorem Aj:aW Go.Proofs.Tryz.prog 174 CS:=⟨Go.Proofs.Tryz.f174,Go.Proofs.Tryz.func174,rfl,rfl,rfl,by kernel_rfl⟩
theorem zX:aW Go.Proofs.Tryz.prog 175 Du:=⟨Go.Proofs.Tryz.f175,Go.Proofs.Tryz.func175,rfl,rfl,rfl,by kernel_rfl⟩
theorem zz:aW Go.Proofs.Tryz.prog 176 Az:=⟨Go.Proofs.Tryz.f176,Go.Proofs.Tryz.func176,rfl,rfl,rfl,by kernel_rfl⟩
theorem yA:aW Go.Proofs.Tryz.prog 177 Do:=⟨Go.Proofs.Tryz.f177,Go.Proofs.Tryz.func177,rfl,rfl,rfl,by kernel_rfl⟩
theorem yT:aW Go.Proofs.Tryz.prog 178 Da:=⟨Go.Proofs.Tryz.f178,Go.Proofs.Tryz.func178,rfl,rfl,rfl,by kernel_rfl⟩
theorem As:aW Go.Proofs.Tryz.prog 179 C0:=⟨Go.Proofs.Tryz.f179,Go.Proofs.Tryz.func179,rfl,rfl,rfl,by kernel_rfl⟩
theorem zr:aW Go.Proofs.Tryz.prog 180 Dl:=⟨Go.Proofs.Tryz.f180,Go.Proofs.Tryz.func180,rfl,rfl,rfl,by kernel_rfl⟩
theorem zC:aW Go.Proofs.Tryz.prog 181 AP:=⟨Go.Proofs.Tryz.f181,Go.Proofs.Tryz.func181,rfl,rfl,rfl,by kernel_rfl⟩
theorem yW:aW Go.Proofs.Tryz.prog 187 Dj:=⟨Go.Proofs.Tryz.f187,Go.Proofs.Tryz.func187,rfl,rfl,rfl,by kernel_rfl⟩
theorem zS:aW Go.Proofs.Tryz.prog 192 yU:=⟨Go.Proofs.Tryz.f192,Go.Proofs.Tryz.func192,rfl,rfl,rfl,by kernel_rfl⟩
theorem AG:aW Go.Proofs.Tryz.prog 198 Ds:=⟨Go.Proofs.Tryz.f198,Go.Proofs.Tryz.func198,rfl,rfl,rfl,by kernel_rfl⟩
theorem Es:yE (aW Go.Proofs.Tryz.prog) GK:=⟨D2,Bl,BR,Bf,BM,BV,BB,A7,Ci,Bt,BP,BI,B9,Bz,BJ,AX,BL,Bn,B8,A4,Br,By,BA,Cf,B6,AZ,BE,B7,yX,AE,zp,za,zu,yP,yI,zI,zl,y7,zU,zL,zJ,zk,yt,y3,AH,zy,AK,Au,yS,Ah,yV,zx,AA,yz,yH,yx,zb,zq,zm,Ag,yy,Aj,zX,zz,yA,yT,As,zr,zC,yW,zS,AG,trivial⟩
theorem mixed:(Go.Proofs.Tryz.prog).follows .mixedOrders=true:=by kernel_rfl
theorem Ed (f:FuncId)(args:List kh)(r:(nv f).den)(h:zP f args=some r):eW Go.Proofs.Tryz.prog aa nv f args r:=by
 unfold zP at h
 by_cases e105:f=105
 ·subst e105
  rw [dif_pos rfl] at h
  exact CC (by kernel_rfl) ⟨Go.Proofs.Tryz.f105,Go.Proofs.Tryz.func105,rfl,by kernel_rfl⟩ Go.Proofs.Tryz.strconv_Atoi_ok Go.Proofs.Tryz.strconv_Atoi_syntax_var Go.Proofs.Tryz.strconv_Atoi_range_var (fun _ h=>h.1) (fun _ h=>h.2.1) h HEq.rfl
 rw [dif_neg e105] at h
 by_cases e159:f=159
 ·subst e159
  rw [dif_pos rfl] at h
  exact Cj (by kernel_rfl) ⟨Go.Proofs.Tryz.f159,Go.Proofs.Tryz.func159,rfl,by kernel_rfl⟩ Go.Proofs.Tryz.strconv_Itoa (fun _ h=>h.2.2.1) h HEq.rfl
 rw [dif_neg e159] at h
 by_cases e193:f=193
 ·subst e193
  rw [dif_pos rfl] at h
  exact Ek (by kernel_rfl) ⟨Go.Proofs.Tryz.f193,Go.Proofs.Tryz.func193,rfl,by kernel_rfl⟩ Go.Proofs.Tryz.strings_Cut (fun _ h=>zt AI h.2.2.2) h HEq.rfl
 rw [dif_neg e193] at h
 cases h
theorem Eo (f:Nat):(E aT).pks f=match look f FA with|some l=>l|none=>[]:=by
 show zF f=_
 unfold zF
 cases look f FA<;>rfl
theorem D8:qB 55 59 91 5 FA=true:=by kernel_rfl
theorem yO:yY Go.Proofs.Tryz.prog 55 91 (aa (.int .u8)):=yL Go.Proofs.Tryz.laysB166 Go.Proofs.Tryz.Builder_Extra_B ⟨Go.Proofs.Tryz.f55,Go.Proofs.Tryz.func55,rfl,by kernel_rfl⟩
theorem ym:zj Go.Proofs.Tryz.prog 59 91 5:=xR Go.Proofs.Tryz.laysB169 Go.Proofs.Tryz.Builder_Extra_B ⟨Go.Proofs.Tryz.f59,Go.Proofs.Tryz.func59,rfl,by kernel_rfl⟩
theorem DL:rz Go.Proofs.Tryz.prog aa (E aT):=rz.bld (fun T i h=>(oP Ep).look T i h) (pks:=FA) Eo D8 yO ym rfl
theorem lv_ok (k:Nat):ir Go.Proofs.Tryz.prog aa nv (dl (E aT) k):=
 DW (E:=E aT) DL (fun _ _=>rfl) (fun f fi h=>Es.look f fi h) (fun f args r _ h=>Ed f args r h) mixed k
end Go.Proofs.YtjkokaockhecnaaGreatDoorA
