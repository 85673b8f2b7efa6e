/- The document's pages: what it puts, what it gets; no condition but the sizes that a machine has. -/
import Derived.Test.YtjkokaockhecnaaGreatDoorPPgB
namespace Go.Proofs.YtjkokaockhecnaaGreatDoorP
open Go Go.Proofs.YtjkokaockhecnaaGreatDoorA
theorem DG (k:Nat):(List.range 16).map (fun n=>dq.f aF (k+8) ((n:Nat):Int))=(List.range 16).map (fun n=>some (bw ((n:Nat):Int))):=by kernel_rfl
theorem kw {k:Nat}(hk:8≤k){n:Int}(h0:0≤n)(h1:n≤15):dq.f aF k n=some (bw n):=by
 obtain ⟨k,rfl⟩:∃q,k=q+8:=⟨k - 8,by omega⟩
 obtain ⟨m,rfl⟩:∃m:Nat,n=(m:Int):=⟨n.toNat,by omega⟩
 exact List.map_inj_left.1 (DG k) m (List.mem_range.2 (by omega))
theorem rz {k:Nat}(hk:12≤k)(x:Int):aT.f aF k x 4=some (w4 x):=by
 obtain ⟨k,rfl⟩:∃q,k=q+12:=⟨k - 12,by omega⟩
 exact Oo k x
def LR:List bc:=[bc.mk 0 (-1) false]
theorem Jk:cu LR 0=true:=by decide
theorem zY (x:Int):(f8 x != ([110]:List UInt8))=true:=by
 rw [bne_iff_ne];intro e
 have:=congrArg List.head? e
 simp [f8] at this
theorem DU {k:Nat}(hk:110000≤k){x:Int}(h:fb x):∃A,au.f aF k LR 0 [f8 x]=some (A,true)∧A.data=w8 x:=by
 obtain ⟨k,rfl⟩:∃q,k=q+6:=⟨k - 6,by omega⟩
 have hrd:rd ([f8 x]:List (List UInt8)) 0=some (f8 x):=rfl
 have hrt:rd LR 0=some (bc.mk 0 (-1) false):=rfl
 have hv:bI.f aF (k+5) [f8 x]=some []:=by
  rw [bI.f_eq,bI.l0_eq,dT (by simp),cT,hrd,bS,dT (by simp),cT,cT,bS,zY,bI.l0_eq,dF (by simp [IntKind.wrap,IntKind.bits,IntKind.signed]),cF,cT]
 have hkd:m7 LR 0=([],0):=by decide
 rw [au.f_eq,hv,bS,dF (by simp),cF,gk (by omega),bS,hkd]
 simp only [List.length_nil]
 rw [show ((((0:Nat):Int)==((0:Nat):Int))&&(decide ((0:Int)≤((0:Nat):Int))&&decide (((0:Nat):Int)*24≤140737488355328)))=true from rfl,cT]
 rw [au.l0_eq,dT (by simp),cT,hrd,bS,lB (by omega) h,bS,hrt,bS]
 simp only [show ((0:Int)==0)=true from rfl,cT]
 rw [dT (show (0:Int)≥0 by omega),cT,show (decide ((0:Nat)≤0)&&decide ((0:Int)<(([cB x]:List (List UInt8)).length:Int)))=true from rfl,cT,show ([cB x]:List (List UInt8))[0]?=some (cB x) from rfl,bS,vf (by omega) h.1 h.2,bS]
 simp only
 rw [show aT.f aF (k+5) x 8=some (w8 x) from by
  obtain ⟨k,rfl⟩:∃q,k=q+10:=⟨k - 10,by omega⟩
  exact Om (k+3) x,bS,dT (by rw [kL];simp),cT]
 rw [au.l0_eq,dF (by simp [IntKind.wrap,IntKind.bits,IntKind.signed]),cF,hrt,bS]
 simp only [show ((0:Int)==1)=false from rfl,show ((0:Int)==2)=false from rfl,show ((0:Int)==3)=false from rfl,cF]
 rw [iw,au.j39_eq,au.l6_eq,dF (by simp),cF,List.nil_append,dT (by rw [kL];omega),cT,show decide (((([]:List UInt8).length:Nat):Int)≤4096)=true from rfl]
 exact ⟨_,rfl,rfl⟩
theorem zJ {k:Nat}(hk:240000≤k){x:Int}(h:fb x):dn.f aF k (f8 x)=some (w8 x):=by
 obtain ⟨k,rfl⟩:∃q,k=q+6:=⟨k - 6,by omega⟩
 obtain ⟨A,hA,hd⟩:=DU (k:=k+4) (by omega) h
 have hf:=iF (k:=k+3) (by omega) (t:=LR) (i:=0) Jk (by decide) (lB (by omega) h) (by omega) rfl (by omega)
 rw [show ((0:Nat):Int)=0 from rfl] at hf
 rw [dn.f_eq]
 show (bN.f aF (k+5) LR 0 [f8 x]).bind _=_
 rw [bN.f_eq,b7 (by omega),bS,Jk,Bool.not_true,cF,bN.l0_eq,dT (by simp),cT,show rd ([f8 x]:List (List UInt8)) 0=some (f8 x) from rfl,bS,hf,bS,Bool.not_true,cF,bN.l0_eq,dF (by simp [IntKind.wrap,IntKind.bits,IntKind.signed]),cF,hA,bS]
 simp only [Bool.not_true,cF,bS]
 rw [hd]
 rfl
theorem vF {k:Nat}(hk:250000≤k){v b:List UInt8}(h:PB v b):cX.f aF k v=some b:=by
 obtain ⟨k,rfl⟩:∃q,k=q+1:=⟨k - 1,by omega⟩
 have hs:=h.short
 rw [cX.f_eq]
 cases h with
 |i x h=>
  rw [lB (by omega) h,bS]
  simp only [show ((0:Int)==0)=true from rfl,cT]
  rw [zJ (by omega) h,bS]
 |b b=>
  rw [u0 (by omega) b,bS]
  simp only [show ((1:Int)==0)=false from rfl,cF]
  cases b<;>rfl
 |s l h16=>
  rw [pA (by omega) (by omega),bS]
  simp only [show ((2:Int)==0)=false from rfl,cF]
  have e1:(cq l==([116]:List UInt8))=false:=by
   rw [beq_eq_false_iff_ne];intro e
   have:=congrArg List.head? e
   simp [cq] at this
  have e2:(cq l==([102]:List UInt8))=false:=by
   rw [beq_eq_false_iff_ne];intro e
   have:=congrArg List.head? e
   simp [cq] at this
  rw [e1,cF,e2,cF]
  simp only [show (decide (0≤0)&&decide ((0:Int)<((([l]:List (List UInt8)).length:Nat):Int)))=true from rfl,cT]
  rw [show ([l]:List (List UInt8))[0]?=some l from rfl,bS,rz (by omega),bS,bS,dT (by rw [bp];omega),cT]
theorem B7 {k:Nat}{vs:List (List UInt8)}(hv:∀v∈vs,PB v (jI v))(hl:vs.length≤4096){H:List UInt8}(hH:H.length≤1000000)(hk:1200000≤k){R D:List Int}{n:Nat}(hn:vs.length<n):
  aP.l0 aF k n H 0 R D vs=some (w4 (fr (H++(vs.map jI).flatten))++(H++(vs.map jI).flatten),0):=by
 have hfl:=ge hv
 have:=cO (F:=fun n i=>aP.l0 aF k n (H++((vs.take i).map jI).flatten) (i:Int) R D vs) (N:=vs.length) (r:=some (w4 (fr (H++(vs.map jI).flatten))++(H++(vs.map jI).flatten),0)) ?_ ?_ n 0 (by omega) (by omega)
 ·simpa using this
 ·intro n i hi
  have hb:=hv vs[i] (List.getElem_mem hi)
  have hft:=ge (vs:=vs.take i) fun v h=>hv v (List.mem_of_mem_take h)
  rw [List.length_take] at hft
  have hbl:=hb.len
  rw [aP.l0_eq,dT (by omega),cT,aO hi,bS,vF (by omega) hb,bS,dT (by rw [List.length_append];omega),cT,bu (i:=i) (by omega)]
  congr 1
  rw [List.take_succ_eq_append_getElem hi,List.map_append,List.flatten_append,List.map_cons,List.map_nil,List.flatten_cons,List.flatten_nil,List.append_nil,List.append_assoc]
 ·intro n
  rw [aP.l0_eq,dF (by omega),cF,List.take_length,nh (by rw [List.length_append];omega) (by rw [List.length_append];omega),bS,rz (by omega),bS,dT (by rw [List.length_append,bp];omega),cT]
theorem nN {k:Nat}{t:List bc}{a:Int}{c:Col}(hk:1400100+c.values.length≤k)(hl:c.values.length≤20000000000000):aP.f aF k t a c=some (eo t a c):=by
 obtain ⟨k,rfl⟩:∃q,k=q+1:=⟨k - 1,by omega⟩
 rw [aP.f_eq,Cj (by omega) hl,bS]
 unfold eo
 cases hm:fK t a c with
 |false=>rfl
 |true=>
  obtain ⟨i,rfl,hi,hmt,hn,hin,h1,h2,h3,h4,h5,h6⟩:=eP hm
  have hvl:=iL hm
  obtain ⟨r0,r1,d0,d1⟩:=ib (t:=t) (a:=(i:Int))
  obtain ⟨pr,_,hr⟩:=iD r1 h3 h2
  obtain ⟨pd,_,hdl⟩:=iD d1 h4 (by omega)
  rw [Bool.not_true,cF,if_pos rfl,iz (by omega),bS,kw (by omega) r0 r1,bS,uW (by omega),bS,kw (by omega) d0 d1,bS,uW (by omega),bS,pr,pd]
  simp only
  rw [rz (by omega),bS,rz (by omega),bS,dT (by simp only [bp];omega),cT,rz (by omega),bS,dT (by simp only [List.length_append,bp];omega),cT,dT (by simp only [List.length_append,bp];omega),cT,dT (by simp only [List.length_append,bp];omega),cT]
  rw [B7 (fun v hv=>qQ (h5 v hv)) hvl (by simp only [List.length_append,bp];omega) (by omega) (by omega)]
  unfold eM mL
  simp only [List.append_assoc]
end Go.Proofs.YtjkokaockhecnaaGreatDoorP
