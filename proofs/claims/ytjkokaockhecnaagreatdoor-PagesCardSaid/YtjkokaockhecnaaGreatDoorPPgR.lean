/- The document's pages: what it puts, what it gets; no condition but the sizes that a machine has. -/
import Derived.Test.YtjkokaockhecnaaGreatDoorPPgB
namespace Go.Proofs.YtjkokaockhecnaaGreatDoorP
open Go Go.Proofs.YtjkokaockhecnaaGreatDoorA
theorem DL (k:Nat):(List.range 16).map (fun n=>dt.f aF (k+8) ((n:Nat):Int))=(List.range 16).map (fun n=>some (bw ((n:Nat):Int))):=by kernel_rfl
theorem kC {k:Nat}(hk:8≤k){n:Int}(h0:0≤n)(h1:n≤15):dt.f aF k n=some (bw n):=by
 obtain ⟨k,rfl⟩:∃q,k=q+8:=⟨k - 8,by omega⟩
 obtain ⟨m,rfl⟩:∃m:Nat,n=(m:Int):=⟨n.toNat,by omega⟩
 exact List.map_inj_left.1 (DL k) m (List.mem_range.2 (by omega))
theorem rj {k:Nat}(hk:12≤k)(x:Int):aT.f aF k x 4=some (w4 x):=by
 obtain ⟨k,rfl⟩:∃q,k=q+12:=⟨k - 12,by omega⟩
 exact OS k x
def LW:List bc:=[bc.mk 0 (-1) false]
theorem Ju:cw LW 0=true:=by decide
theorem AW (x:Int):(gd x != ([110]:List UInt8))=true:=by
 rw [bne_iff_ne];intro e
 have:=congrArg List.head? e
 simp [gd] at this
theorem C0 {k:Nat}(hk:110000≤k){x:Int}(h:fe x):∃A,au.f aF k LW 0 [gd x]=some (A,true)∧A.data=w8 x:=by
 obtain ⟨k,rfl⟩:∃q,k=q+6:=⟨k - 6,by omega⟩
 have hrd:rd ([gd x]:List (List UInt8)) 0=some (gd x):=rfl
 have hrt:rd LW 0=some (bc.mk 0 (-1) false):=rfl
 have hv:bI.f aF (k+5) [gd x]=some []:=by
  rw [bI.f_eq,bI.l0_eq,dT (by simp),cT,hrd,bS,dT (by simp),cT,cT,bS,AW,bI.l0_eq,dF (by simp [IntKind.wrap,IntKind.bits,IntKind.signed]),cF,cT]
 have hkd:mi LW 0=([],0):=by decide
 rw [au.f_eq,hv,bS,dF (by simp),cF,gq (by omega),bS,hkd]
 simp only [List.length_nil]
 rw [show ((((0:Nat):Int)==((0:Nat):Int))&&(decide ((0:Int)≤((0:Nat):Int))&&decide (((0:Nat):Int)*24≤140737488355328)))=true from rfl,cT]
 rw [au.l0_eq,dT (by simp),cT,hrd,bS,lc (by omega) h,bS,hrt,bS]
 simp only [show ((0:Int)==0)=true from rfl,cT]
 rw [dT (show (0:Int)≥0 by omega),cT,show (decide ((0:Nat)≤0)&&decide ((0:Int)<(([cB x]:List (List UInt8)).length:Int)))=true from rfl,cT,show ([cB x]:List (List UInt8))[0]?=some (cB x) from rfl,bS,ua (by omega) h.1 h.2,bS]
 simp only
 rw [show aT.f aF (k+5) x 8=some (w8 x) from by
  obtain ⟨k,rfl⟩:∃q,k=q+10:=⟨k - 10,by omega⟩
  exact OE (k+3) x,bS,dT (by rw [kM];simp),cT]
 rw [au.l0_eq,dF (by simp [IntKind.wrap,IntKind.bits,IntKind.signed]),cF,hrt,bS]
 simp only [show ((0:Int)==1)=false from rfl,show ((0:Int)==2)=false from rfl,show ((0:Int)==3)=false from rfl,cF]
 rw [ir,au.j39_eq,au.l6_eq,dF (by simp),cF,List.nil_append,dT (by rw [kM];omega),cT,show decide (((([]:List UInt8).length:Nat):Int)≤4096)=true from rfl]
 exact ⟨_,rfl,rfl⟩
theorem yl {k:Nat}(hk:240000≤k){x:Int}(h:fe x):dn.f aF k (gd x)=some (w8 x):=by
 obtain ⟨k,rfl⟩:∃q,k=q+6:=⟨k - 6,by omega⟩
 obtain ⟨A,hA,hd⟩:=C0 (k:=k+4) (by omega) h
 have hf:=iL (k:=k+3) (by omega) (t:=LW) (i:=0) Ju (by decide) (lc (by omega) h) (by omega) rfl (by omega)
 rw [show ((0:Nat):Int)=0 from rfl] at hf
 rw [dn.f_eq]
 show (bN.f aF (k+5) LW 0 [gd x]).bind _=_
 rw [bN.f_eq,b7 (by omega),bS,Ju,Bool.not_true,cF,bN.l0_eq,dT (by simp),cT,show rd ([gd x]:List (List UInt8)) 0=some (gd x) from rfl,bS,hf,bS,Bool.not_true,cF,bN.l0_eq,dF (by simp [IntKind.wrap,IntKind.bits,IntKind.signed]),cF,hA,bS]
 simp only [Bool.not_true,cF,bS]
 rw [hd]
 rfl
theorem vS {k:Nat}(hk:250000≤k){v b:List UInt8}(h:PB v b):cZ.f aF k v=some b:=by
 obtain ⟨k,rfl⟩:∃q,k=q+1:=⟨k - 1,by omega⟩
 have hs:=h.short
 rw [cZ.f_eq]
 cases h with
 |i x h=>
  rw [lc (by omega) h,bS]
  simp only [show ((0:Int)==0)=true from rfl,cT]
  rw [yl (by omega) h,bS]
 |b b=>
  rw [vw (by omega) b,bS]
  simp only [show ((1:Int)==0)=false from rfl,cF]
  cases b<;>rfl
 |s l h16=>
  rw [py (by omega) (by omega),bS]
  simp only [show ((2:Int)==0)=false from rfl,cF]
  have e1:(ct l==([116]:List UInt8))=false:=by
   rw [beq_eq_false_iff_ne];intro e
   have:=congrArg List.head? e
   simp [ct] at this
  have e2:(ct l==([102]:List UInt8))=false:=by
   rw [beq_eq_false_iff_ne];intro e
   have:=congrArg List.head? e
   simp [ct] at this
  rw [e1,cF,e2,cF]
  simp only [show (decide (0≤0)&&decide ((0:Int)<((([l]:List (List UInt8)).length:Nat):Int)))=true from rfl,cT]
  rw [show ([l]:List (List UInt8))[0]?=some l from rfl,bS,rj (by omega),bS,bS,dT (by rw [bm];omega),cT]
theorem Dt {k:Nat}{vs:List (List UInt8)}(hv:∀v∈vs,PB v (jI v))(hl:vs.length≤4096){H:List UInt8}(hH:H.length≤1000000)(hk:1200000≤k){R D:List Int}{n:Nat}(hn:vs.length<n):
  aO.l0 aF k n H 0 R D vs=some (w4 (fm (H++(vs.map jI).flatten))++(H++(vs.map jI).flatten),0):=by
 have hfl:=f7 hv
 have:=cN (F:=fun n i=>aO.l0 aF k n (H++((vs.take i).map jI).flatten) (i:Int) R D vs) (N:=vs.length) (r:=some (w4 (fm (H++(vs.map jI).flatten))++(H++(vs.map jI).flatten),0)) ?_ ?_ n 0 (by omega) (by omega)
 ·simpa using this
 ·intro n i hi
  have hb:=hv vs[i] (List.getElem_mem hi)
  have hft:=f7 (vs:=vs.take i) fun v h=>hv v (List.mem_of_mem_take h)
  rw [List.length_take] at hft
  have hbl:=hb.len
  rw [aO.l0_eq,dT (by omega),cT,aP hi,bS,vS (by omega) hb,bS,dT (by rw [List.length_append];omega),cT,bu (i:=i) (by omega)]
  congr 1
  rw [List.take_succ_eq_append_getElem hi,List.map_append,List.flatten_append,List.map_cons,List.map_nil,List.flatten_cons,List.flatten_nil,List.append_nil,List.append_assoc]
 ·intro n
  rw [aO.l0_eq,dF (by omega),cF,List.take_length,ng (by rw [List.length_append];omega) (by rw [List.length_append];omega),bS,rj (by omega),bS,dT (by rw [List.length_append,bm];omega),cT]
theorem nX {k:Nat}{t:List bc}{a:Int}{c:Col}(hk:1400100+c.values.length≤k)(hl:c.values.length≤20000000000000):aO.f aF k t a c=some (eo t a c):=by
 obtain ⟨k,rfl⟩:∃q,k=q+1:=⟨k - 1,by omega⟩
 rw [aO.f_eq,Dv (by omega) hl,bS]
 unfold eo
 cases hm:fL t a c with
 |false=>rfl
 |true=>
  obtain ⟨i,rfl,hi,hmt,hn,hin,h1,h2,h3,h4,h5,h6⟩:=eU hm
  have hvl:=iK hm
  obtain ⟨r0,r1,d0,d1⟩:=il (t:=t) (a:=(i:Int))
  obtain ⟨pr,_,hr⟩:=iE r1 h3 h2
  obtain ⟨pd,_,hdl⟩:=iE d1 h4 (by omega)
  rw [Bool.not_true,cF,if_pos rfl,iz (by omega),bS,kC (by omega) r0 r1,bS,uQ (by omega),bS,kC (by omega) d0 d1,bS,uQ (by omega),bS,pr,pd]
  simp only
  rw [rj (by omega),bS,rj (by omega),bS,dT (by simp only [bm];omega),cT,rj (by omega),bS,dT (by simp only [List.length_append,bm];omega),cT,dT (by simp only [List.length_append,bm];omega),cT,dT (by simp only [List.length_append,bm];omega),cT]
  rw [Dt (fun v hv=>qE (h5 v hv)) hvl (by simp only [List.length_append,bm];omega) (by omega) (by omega)]
  unfold eO mL
  simp only [List.append_assoc]
end Go.Proofs.YtjkokaockhecnaaGreatDoorP
