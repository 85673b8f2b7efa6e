/- Builders: what the two methods do, by their code (over any program that bears it). -/
import Derived.Test.YtjkokaockhecnaaGreatDoorCall6
import Derived.Shelf.Strings.Builder1
namespace Go.Proofs.YtjkokaockhecnaaGreatDoorA
open Go Go.Proofs
open Go.Shelf Go.RowKit
set_option linter.unusedVariables false
theorem l8 {P:Program}(w:World):∀(l:List Int) (a:Addr) (acc:ByteArray),(∀j x,l[j]?=some x→w.cell? (a.add j)=some (.int .u8 x))→
  (loadBytes a acc l.length).run P w=.ok ⟨acc.data++(ab l).toArray⟩ w
 |[],a,acc,_=>by simp [loadBytes,ab]
 |x :: l,a,acc,h=>by
  have h0:w.cell? a=some (.int .u8 x):=by
   have:=h 0 x rfl
   simpa [Addr.add] using this
  have ih:=l8 (P:=P) w l (a.add 1) (acc.push x.toNat.toUInt8) (fun j y hy=>by
   have:=h (j+1) y (by simpa using hy)
   have e:(a.add 1).add j=a.add (j+1):=by
    unfold Addr.add
    by_cases hj:j=0
    ·subst hj;simp
    ·simp [hj];omega
   rw [e];exact this)
  simp only [List.length_cons,loadBytes,Sem.run_bind,run_load,h0,Result.andThen]
  rw [ih]
  congr 1
  apply ByteArray.ext
  simp [ByteArray.push,ab]
theorem jG {P:Program}(w:World)(pt it ty e:TypeId)(hp:P.underlying pt=some (.pointer e))(hc:P.cellsOf e=1)(g cells:Nat)(hsh:w.shape? g=some (e,cells))(l:List Int)(h0:l≠[])(hn:l.length≤cells)(h63:l.length≤9223372036854775807)
  (hcell:∀j x,l[j]?=some x→w.cell? ((⟨g,0,none⟩:Addr).add j)=some (.int .u8 x)):
  (Builtin.unsafeString_ #[pt,it] ty #[.pointer (some ⟨g,0,none⟩),.int .i64 l.length]).run P w=.ok (.string ⟨(ab l).toArray⟩) (w.freeze ⟨g,0,none⟩ l.length):=by
 have hl:l.length≠0:=by simpa using h0
 have hlb:=l8 (P:=P) w l ⟨g,0,none⟩ .empty hcell
 have hlies:=Lib.liesAt_bytes (P:=P) hc (cells / P.cellsOf e) l.length (by rw [hc];simpa using hn)
 have h63':¬(9223372036854775807:Int)<(l.length:Int):=by omega
 have hdef:Builtin.unsafeString_ #[pt,it] ty #[.pointer (some ⟨g,0,none⟩),.int .i64 l.length]=
   (do
    let n←asInt (.int .i64 l.length)
    if n<0 then runtimePanic (.error "unsafe.String: len out of range")
    if n>IntKind.i64.max then unsupported (.unsafePointer "String: a length above the largest int")
    if n=0 then pure (.string .empty)
    else if←variablesAt ⟨g,0,none⟩ (←elemOf pt) n.toNat then do
     let s←loadBytes ⟨g,0,none⟩ .empty n.toNat
     freeze ⟨g,0,none⟩ n.toNat
     pure (.string s)
    else unsupported (.unsafePointer "String: not so many bytes at ptr")):=rfl
 rw [hdef]
 have hmax:IntKind.i64.max=9223372036854775807:=rfl
 have hneg:¬(l.length:Int)<0:=by omega
 simp [asInt,asIntOf,hmax,h63',hneg,hl,variablesAt,hsh,elemOf,run_underlying hp,hlies,hlb]
section
variable {P:Program}{ρ:Ren}
set_option maxHeartbeats 2000000 in
set_option maxRecDepth 100000 in
theorem yL (L:Lays.n166 P ρ)(X:Builder.Extra P ρ)(hbod:ff P (ρ.f 166)):yY P (ρ.f 166) (ρ.t 72) (ρ.t 5):=by
 refine ⟨hbod,fun w b p v s n xs hsh h0 hp hf0 hf1 h1 hown hne hlen=>?_⟩
 obtain ⟨i0,hi,hz0,hz1,hz2⟩:=info_parts X.infoByte
 have mixed:=L.mixed
 have t72:=L.t72;have a72:=L.a72;have z72:=L.z72;have v72:=L.v72;have u72:=run_underlying L.t72
 have t70:=L.t70;have a70:=L.a70;have z70:=L.z70;have v70:=L.v70;have u70:=run_underlying L.t70
 have t37:=L.t37;have a37:=L.a37;have z37:=L.z37;have v37:=L.v37;have u37:=run_underlying L.t37
 have t3:=L.t3;have a3:=L.a3;have z3:=L.z3;have v3:=L.v3;have u3:=run_underlying L.t3
 have t9:=L.t9;have a9:=L.a9;have z9:=L.z9;have v9:=L.v9;have u9:=run_underlying L.t9
 have t4:=L.t4;have a4:=L.a4;have z4:=L.z4;have v4:=L.v4;have u4:=run_underlying L.t4
 have t164:=L.t164;have a164:=L.a164;have z164:=L.z164;have v164:=L.v164;have u164:=run_underlying L.t164
 have t5:=X.t5;have a5:=X.a5;have z5:=X.z5;have v5:=X.v5;have u5:=run_underlying X.t5
 have e240:∀args w,(callFunc (ρ.f 240) args).run P w=.ok (.enter (ρ.f 240) args) w:=enters_of L.f240 (by kernel_rfl) rfl
 have hchk:Calls P (ρ.f 240) #[.pointer (some ⟨b,0,none⟩)] w fun e w1=>e=.returned (.tuple #[])∧(w1=w∧p=some ⟨b,0,none⟩∨w1=w.setCell ⟨b,0,none⟩ (.pointer (some ⟨b,0,none⟩))):=by
  rcases hp with rfl|rfl
  ·refine (Any.Builder_copyCheck_fresh { L with } X.toX72 b w h0 hsh hf0).mono ?_
   rintro e w' ⟨rfl,rfl⟩
   exact ⟨rfl,.inr rfl⟩
  ·refine (Any.Builder_copyCheck_used { L with } X.toX72 b w h0).mono ?_
   rintro e w' ⟨rfl,rfl⟩
   exact ⟨rfl,.inl ⟨rfl,rfl⟩⟩
 go_enter L.f166,Body.n166_ntmps ρ
 go_wp2_with (go_at_fn (ρ.f 240);refine hchk.mono ?_)
 rintro e w1 ⟨rfl,hw1⟩
 have c1:w1.cell? ⟨b,1,none⟩=some v:=by
  rcases hw1 with ⟨rfl,_⟩|rfl
  ·exact h1
  ·rw [World.cell?_setCell_other _ _ _ _ (by simp)];exact h1
 have hown1:w1.ownsRow 0 (ρ.t 5) 1 v n xs:=by
  refine ie hown fun k hk=>?_
  rcases hw1 with ⟨rfl,_⟩|rfl
  ·rfl
  ·exact dC b [.pointer (some ⟨b,0,none⟩)] 0 w k (fun e=>hne (by rw [hk,e]))
 have f1:w1.frozen? ⟨b,1,none⟩=false:=by
  rcases hw1 with ⟨rfl,_⟩|rfl
  ·exact hf1
  ·rw [World.frozen?_setCell];exact hf1
 have hsz:b<w1.heap.size:=by
  have:=jN hsh
  rcases hw1 with ⟨rfl,_⟩|rfl
  ·exact this
  ·simpa using this
 go_wp2_with (at_builtin;refine jH rfl _ _ (ρ.t 37) (ρ.t 9) rfl (ρ.t 5) i0 L.t37 L.t9 hi hz0 hz1 hz2 _ _ _ rfl hown1 s rfl hlen ?_)
 intro v' w2 hown2 happ
 have hchg:=um hown1 hown2 (fun j hj=>by rw [List.getElem?_append_left (by rw [hown1.1];omega)]) (by omega) happ
 have d1:w2.cell? ⟨b,1,none⟩=some v:=(hchg.cel b 1 hsz (fun hm=>hne hm.1)).trans c1
 have f2:w2.frozen? ⟨b,1,none⟩=false:=(hchg.frz b 1 hsz (fun hm=>hne hm.1)).trans f1
 obtain ⟨ao,n',cap,rfl⟩:∃ao n' cap,v'=.slice ao n' cap:=by
  rcases hown2.2 with ⟨hv,_⟩|⟨g,cap,cur,hv,_⟩
  ·exact ⟨_,_,_,hv⟩
  ·exact ⟨_,_,_,hv⟩
 go_wp2
 go_ret2
 exact ⟨_,_,w1,w2,rfl,hw1,hown2,happ,rfl⟩
set_option maxHeartbeats 1000000 in
set_option maxRecDepth 100000 in
theorem tn (L:Lays.n169 P ρ)(X:Builder.Extra P ρ)(w:World)(b g k c:Nat)(l:List Int)(h0:l≠[])(h1:w.cell? ⟨b,1,none⟩=some (.slice (some ⟨g,0,none⟩) l.length c))(hcap:l.length≤c)(hcm:c≤maxLen)(hsh:w.shape? g=some (ρ.t 5,k))(hk:l.length≤k)
  (hcell:∀j x,l[j]?=some x→w.cell? ⟨g,j,none⟩=some (.int .u8 x)):
  Calls P (ρ.f 169) #[.pointer (some ⟨b,0,none⟩)] w fun ex w'=>ex=.returned (.string ⟨(ab l).toArray⟩)∧w'=w.drew.freeze ⟨g,0,none⟩ l.length:=by
 have hl0:l.length≠0:=by simpa using h0
 have c1:w.drew.cell? ⟨b,1,none⟩=some (.slice (some ⟨g,0,none⟩) l.length c):=h1
 have hSD:(Builtin.unsafeSliceData_ #[(ρ.t 37)] (ρ.t 127) #[.slice (some ⟨g,0,none⟩) l.length c]).run P w.drew=.ok (.pointer (some ⟨g,0,none⟩)) w.drew:=
  Lib.run_unsafeSliceData_row _ _ _ _ _ _ (by omega)
 have hUS:(Builtin.unsafeString_ #[(ρ.t 127),(ρ.t 3)] (ρ.t 9) #[.pointer (some ⟨g,0,none⟩),.int .i64 l.length]).run P w.drew=.ok (.string ⟨(ab l).toArray⟩) (w.drew.freeze ⟨g,0,none⟩ l.length):=by
  refine jG w.drew (ρ.t 127) (ρ.t 3) (ρ.t 9) (ρ.t 5) L.t127 X.cellsByte g k hsh l h0 hk (by unfold maxLen at hcm;omega) ?_
  intro j x hx
  rw [Addr.add_lit]
  simpa using hcell j x hx
 have mixed:=L.mixed
 have t72:=L.t72;have a72:=L.a72;have z72:=L.z72;have v72:=L.v72;have u72:=run_underlying L.t72
 have t70:=L.t70;have a70:=L.a70;have z70:=L.z70;have v70:=L.v70;have u70:=run_underlying L.t70
 have t37:=L.t37;have a37:=L.a37;have z37:=L.z37;have v37:=L.v37;have u37:=run_underlying L.t37
 have t127:=L.t127;have a127:=L.a127;have z127:=L.z127;have v127:=L.v127;have u127:=run_underlying L.t127
 have t3:=L.t3;have a3:=L.a3;have z3:=L.z3;have v3:=L.v3;have u3:=run_underlying L.t3
 have t9:=L.t9;have a9:=L.a9;have z9:=L.z9;have v9:=L.v9;have u9:=run_underlying L.t9
 have t5:=X.t5;have a5:=X.a5;have z5:=X.z5;have v5:=X.v5;have u5:=run_underlying X.t5
 go_enter L.f169,Body.n169_ntmps ρ
 go_wp2
 go_region_o
 all_goals (go_wp2;go_ret;exact ⟨rfl,rfl⟩)
set_option maxHeartbeats 1000000 in
set_option maxRecDepth 100000 in
theorem vq (L:Lays.n169 P ρ)(X:Builder.Extra P ρ)(w:World)(b c:Nat)(ad:Option Addr)(h1:w.cell? ⟨b,1,none⟩=some (.slice ad 0 c))(hs:∀q,ad=some q→(w.shape? q.block).isSome=true):
  Calls P (ρ.f 169) #[.pointer (some ⟨b,0,none⟩)] w fun ex w'=>ex=.returned (.string ⟨#[]⟩)∧Below w.heap.size w w':=by
 have c1:w.drew.cell? ⟨b,1,none⟩=some (.slice ad 0 c):=h1
 have mixed:=L.mixed
 have t72:=L.t72;have a72:=L.a72;have z72:=L.z72;have v72:=L.v72;have u72:=run_underlying L.t72
 have t70:=L.t70;have a70:=L.a70;have z70:=L.z70;have v70:=L.v70;have u70:=run_underlying L.t70
 have t37:=L.t37;have a37:=L.a37;have z37:=L.z37;have v37:=L.v37;have u37:=run_underlying L.t37
 have t127:=L.t127;have a127:=L.a127;have z127:=L.z127;have v127:=L.v127;have u127:=run_underlying L.t127
 have t3:=L.t3;have a3:=L.a3;have z3:=L.z3;have v3:=L.v3;have u3:=run_underlying L.t3
 have t9:=L.t9;have a9:=L.a9;have z9:=L.z9;have v9:=L.v9;have u9:=run_underlying L.t9
 have t5:=X.t5;have a5:=X.a5;have z5:=X.z5;have v5:=X.v5;have u5:=run_underlying X.t5
 have hd:Below w.heap.size w w.drew:=Below.drew (Below.refl _ _)
 have hUS:∀(w:World) (p:Option Addr),(Builtin.unsafeString_ #[(ρ.t 127),(ρ.t 3)] (ρ.t 9) #[.pointer p,.int .i64 0]).run P w=.ok (.string .empty) w:=fun w p=>Lib.run_unsafeString_none w _ _ _ p
 cases ad with
 |none=>
  have hSD:(Builtin.unsafeSliceData_ #[(ρ.t 37)] (ρ.t 127) #[.slice none 0 c]).run P w.drew=.ok (.pointer none) w.drew:=Lib.run_unsafeSliceData_nil _ _ _ _ _
  have hUS1:=hUS w.drew none
  go_enter L.f169,Body.n169_ntmps ρ
  go_wp2
  go_region_o
  all_goals (go_wp2;go_ret;exact ⟨rfl,hd⟩)
 |some q=>
  by_cases hc:c=0
  ·subst hc
   obtain ⟨sh,hsh⟩:=Option.isSome_iff_exists.1 (hs q rfl)
   have hSD:(Builtin.unsafeSliceData_ #[(ρ.t 37)] (ρ.t 127) #[.slice (some q) 0 0]).run P w.drew=.ok (.pointer (some ⟨w.drew.heap.size,0,none⟩)) (w.drew.alloc (.view q (ρ.t 5))):=Lib.run_unsafeSliceData_zero w.drew _ _ _ L.t127 q 0 sh hsh
   have hUS1:=hUS (w.drew.alloc (.view q (ρ.t 5))) (some ⟨w.drew.heap.size,0,none⟩)
   have hlt:b<w.heap.size:=by
    rcases Nat.lt_or_ge b w.heap.size with h|h
    ·exact h
    ·unfold World.cell? at h1
     rw [Array.getElem?_eq_none h] at h1;cases h1
   have c2:(w.alloc (.view q (ρ.t 5))).cell? ⟨b,1,none⟩=some (.slice (some q) 0 0):=by
    rw [World.cell?_of_block (heap_alloc_old w _ hlt)];exact h1
   have c3:(w.alloc (.view q (ρ.t 5))).drew.cell? ⟨b,1,none⟩=some (.slice (some q) 0 0):=c2
   go_enter L.f169,Body.n169_ntmps ρ
   go_wp2
   go_region_o
   all_goals (go_wp2;go_ret;exact ⟨rfl,hd.alloc (Nat.le_refl _) _⟩)
  ·have hSD:(Builtin.unsafeSliceData_ #[(ρ.t 37)] (ρ.t 127) #[.slice (some q) 0 c]).run P w.drew=.ok (.pointer (some q)) w.drew:=Lib.run_unsafeSliceData_row _ _ _ _ _ _ hc
   have hUS1:=hUS w.drew (some q)
   go_enter L.f169,Body.n169_ntmps ρ
   go_wp2
   go_region_o
   all_goals (go_wp2;go_ret;exact ⟨rfl,hd⟩)
theorem xR (L:Lays.n169 P ρ)(X:Builder.Extra P ρ)(hbod:ff P (ρ.f 169)):zj P (ρ.f 169) (ρ.t 72) (ρ.t 5):=
 ⟨hbod,fun w b ad c h1 hs=>vq L X w b c ad h1 hs,fun w b g k c l h0 h1 h2 h3 h4 h5 h6=>tn L X w b g k c l h0 h1 h2 h3 h4 h5 h6⟩
end
end Go.Proofs.YtjkokaockhecnaaGreatDoorA
