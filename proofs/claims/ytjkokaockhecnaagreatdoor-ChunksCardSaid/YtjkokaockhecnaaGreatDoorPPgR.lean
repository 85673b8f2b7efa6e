/- The document's pages: what it puts, what it gets; no condition but the sizes that a machine has. -/
import Derived.Test.YtjkokaockhecnaaGreatDoorPPgB
namespace Go.Proofs.YtjkokaockhecnaaGreatDoorP
open Go Go.Proofs.YtjkokaockhecnaaGreatDoorA
theorem D7 (k:Nat):(List.range 16).map (fun n=>dK.f aG (k+8) ((n:Nat):Int))=(List.range 16).map (fun n=>some (bw ((n:Nat):Int))):=by kernel_rfl
theorem k5 {k:Nat}(hk:8≤k){n:Int}(h0:0≤n)(h1:n≤15):dK.f aG k n=some (bw n):=by
 obtain ⟨k,rfl⟩:∃q,k=q+8:=⟨k - 8,by omega⟩
 obtain ⟨m,rfl⟩:∃m:Nat,n=(m:Int):=⟨n.toNat,by omega⟩
 exact List.map_inj_left.1 (D7 k) m (List.mem_range.2 (by omega))
theorem sC {k:Nat}(hk:12≤k)(x:Int):aY.f aG k x 4=some (w4 x):=by
 obtain ⟨k,rfl⟩:∃q,k=q+12:=⟨k - 12,by omega⟩
 exact Ql k x
def NL:List aT:=[aT.mk 0 (-1) false]
theorem K4:cB NL 0=true:=by decide
theorem BG (x:Int):(gQ x != ([110]:List UInt8))=true:=by
 rw [bne_iff_ne];intro e
 have:=congrArg List.head? e
 simp [gQ] at this
theorem EV {k:Nat}(hk:110000≤k){x:Int}(h:fJ x):∃A,aw.f aG k NL 0 [gQ x]=some (A,true)∧A.data=w8 x:=by
 obtain ⟨k,rfl⟩:∃q,k=q+6:=⟨k - 6,by omega⟩
 have hrd:rd ([gQ x]:List (List UInt8)) 0=some (gQ x):=rfl
 have hrt:rd NL 0=some (aT.mk 0 (-1) false):=rfl
 have hv:bN.f aG (k+5) [gQ x]=some []:=by
  rw [bN.f_eq,bN.l0_eq,dT (by simp),cT,hrd,bS,dT (by simp),cT,cT,bS,BG,bN.l0_eq,dF (by simp [IntKind.wrap,IntKind.bits,IntKind.signed]),cF,cT]
 have hkd:nD NL 0=([],0):=by decide
 rw [aw.f_eq,hv,bS,dF (by simp),cF,gR (by omega),bS,hkd]
 simp only [List.length_nil]
 rw [show ((((0:Nat):Int)==((0:Nat):Int))&&(decide ((0:Int)≤((0:Nat):Int))&&decide (((0:Nat):Int)*24≤140737488355328)))=true from rfl,cT]
 rw [aw.l0_eq,dT (by simp),cT,hrd,bS,lS (by omega) h,bS,hrt,bS]
 simp only [show ((0:Int)==0)=true from rfl,cT]
 rw [dT (show (0:Int)≥0 by omega),cT,show (decide ((0:Nat)≤0)&&decide ((0:Int)<(([cO x]:List (List UInt8)).length:Int)))=true from rfl,cT,show ([cO x]:List (List UInt8))[0]?=some (cO x) from rfl,bS,vo (by omega) h.1 h.2,bS]
 simp only
 rw [show aY.f aG (k+5) x 8=some (w8 x) from by
  obtain ⟨k,rfl⟩:∃q,k=q+10:=⟨k - 10,by omega⟩
  exact QJ (k+3) x,bS,dT (by rw [k6];simp),cT]
 rw [aw.l0_eq,dF (by simp [IntKind.wrap,IntKind.bits,IntKind.signed]),cF,hrt,bS]
 simp only [show ((0:Int)==1)=false from rfl,show ((0:Int)==2)=false from rfl,show ((0:Int)==3)=false from rfl,cF]
 rw [fH,aw.j39_eq,aw.l6_eq,dF (by simp),cF,List.nil_append,dT (by rw [k6];omega),cT,show decide (((([]:List UInt8).length:Nat):Int)≤4096)=true from rfl]
 exact ⟨_,rfl,rfl⟩
theorem zo {k:Nat}(hk:240000≤k){x:Int}(h:fJ x):dG.f aG k (gQ x)=some (w8 x):=by
 obtain ⟨k,rfl⟩:∃q,k=q+6:=⟨k - 6,by omega⟩
 obtain ⟨A,hA,hd⟩:=EV (k:=k+4) (by omega) h
 have hf:=jh (k:=k+3) (by omega) (t:=NL) (i:=0) K4 (by decide) (lS (by omega) h) (by omega) rfl (by omega)
 rw [show ((0:Nat):Int)=0 from rfl] at hf
 rw [dG.f_eq]
 show (bW.f aG (k+5) NL 0 [gQ x]).bind _=_
 rw [bW.f_eq,cg (by omega),bS,K4,Bool.not_true,cF,bW.l0_eq,dT (by simp),cT,show rd ([gQ x]:List (List UInt8)) 0=some (gQ x) from rfl,bS,hf,bS,Bool.not_true,cF,bW.l0_eq,dF (by simp [IntKind.wrap,IntKind.bits,IntKind.signed]),cF,hA,bS]
 simp only [Bool.not_true,cF,bS]
 rw [hd]
 rfl
theorem wO {k:Nat}(hk:250000≤k){v b:List UInt8}(h:PB v b):dd.f aG k v=some b:=by
 obtain ⟨k,rfl⟩:∃q,k=q+1:=⟨k - 1,by omega⟩
 have hs:=h.short
 rw [dd.f_eq]
 cases h with
 |i x h=>
  rw [lS (by omega) h,bS]
  simp only [show ((0:Int)==0)=true from rfl,cT]
  rw [zo (by omega) h,bS]
 |b b=>
  rw [uV (by omega) b,bS]
  simp only [show ((1:Int)==0)=false from rfl,cF]
  cases b<;>rfl
 |s l h16=>
  rw [qW (by omega) (by omega),bS]
  simp only [show ((2:Int)==0)=false from rfl,cF]
  have e1:(cH l==([116]:List UInt8))=false:=by
   rw [beq_eq_false_iff_ne];intro e
   have:=congrArg List.head? e
   simp [cH] at this
  have e2:(cH l==([102]:List UInt8))=false:=by
   rw [beq_eq_false_iff_ne];intro e
   have:=congrArg List.head? e
   simp [cH] at this
  rw [e1,cF,e2,cF]
  simp only [show (decide (0≤0)&&decide ((0:Int)<((([l]:List (List UInt8)).length:Nat):Int)))=true from rfl,cT]
  rw [show ([l]:List (List UInt8))[0]?=some l from rfl,bS,sC (by omega),bS,bS,dT (by rw [bp];omega),cT]
theorem Ew {k:Nat}{vs:List (List UInt8)}(hv:∀v∈vs,PB v (kf v))(hl:vs.length≤4096){H:List UInt8}(hH:H.length≤1000000)(hk:1200000≤k){R D:List Int}{n:Nat}(hn:vs.length<n):
  aQ.l0 aG k n H 0 R D vs=some (w4 (fX (H++(vs.map kf).flatten))++(H++(vs.map kf).flatten),0):=by
 have hfl:=fY hv
 have:=cV (F:=fun n i=>aQ.l0 aG k n (H++((vs.take i).map kf).flatten) (i:Int) R D vs) (N:=vs.length) (r:=some (w4 (fX (H++(vs.map kf).flatten))++(H++(vs.map kf).flatten),0)) ?_ ?_ n 0 (by omega) (by omega)
 ·simpa using this
 ·intro n i hi
  have hb:=hv vs[i] (List.getElem_mem hi)
  have hft:=fY (vs:=vs.take i) fun v h=>hv v (List.mem_of_mem_take h)
  rw [List.length_take] at hft
  have hbl:=hb.len
  rw [aQ.l0_eq,dT (by omega),cT,aL hi,bS,wO (by omega) hb,bS,dT (by rw [List.length_append];omega),cT,bb (i:=i) (by omega)]
  congr 1
  rw [List.take_succ_eq_append_getElem hi,List.map_append,List.flatten_append,List.map_cons,List.map_nil,List.flatten_cons,List.flatten_nil,List.append_nil,List.append_assoc]
 ·intro n
  rw [aQ.l0_eq,dF (by omega),cF,List.take_length,oc (by rw [List.length_append];omega) (by rw [List.length_append];omega),bS,sC (by omega),bS,dT (by rw [List.length_append,bp];omega),cT]
theorem kJ {k:Nat}{t:List aT}{a:Int}{c:Col}(hk:1400100+c.values.length≤k)(hl:c.values.length≤20000000000000):aQ.f aG k t a c=some (dy t a c):=by
 obtain ⟨k,rfl⟩:∃q,k=q+1:=⟨k - 1,by omega⟩
 rw [aQ.f_eq,rN (by omega) hl,bS]
 unfold dy
 cases hm:cj t a c with
 |false=>rfl
 |true=>
  obtain ⟨i,rfl,hi,hmt,hn,hin,h1,h2,h3,h4,h5,h6⟩:=bR hm
  have hvl:=fg hm
  obtain ⟨r0,r1,d0,d1⟩:=hO (t:=t) (a:=(i:Int))
  obtain ⟨pr,_,hr⟩:=gy r1 h3 h2
  obtain ⟨pd,_,hdl⟩:=gy d1 h4 (by omega)
  rw [Bool.not_true,cF,if_pos rfl,fE (by omega),bS,k5 (by omega) r0 r1,bS,vz (by omega),bS,k5 (by omega) d0 d1,bS,vz (by omega),bS,pr,pd]
  simp only
  rw [sC (by omega),bS,sC (by omega),bS,dT (by simp only [bp];omega),cT,sC (by omega),bS,dT (by simp only [List.length_append,bp];omega),cT,dT (by simp only [List.length_append,bp];omega),cT,dT (by simp only [List.length_append,bp];omega),cT]
  rw [Ew (fun v hv=>po (h5 v hv)) hvl (by simp only [List.length_append,bp];omega) (by omega) (by omega)]
  unfold eT lK
  simp only [List.append_assoc]
end Go.Proofs.YtjkokaockhecnaaGreatDoorP
