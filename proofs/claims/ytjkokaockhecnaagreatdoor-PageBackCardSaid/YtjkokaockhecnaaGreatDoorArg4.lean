/- What a row's reading of an array says, in the machine's words; no condition. -/
import Derived.Test.YtjkokaockhecnaaGreatDoorArg3
import Derived.Test.YtjkokaockhecnaaGreatDoorRoom
import Derived.ChangeArms
namespace Go.Proofs.YtjkokaockhecnaaGreatDoorA
open Go Go.Proofs.YtjkokaockhecnaaGreatDoor
section
variable {H:Type}{enc:TypeId×Value→H}{P:Program}{W:World}
def GL (P:Program)(t:TypeId)(d:DataW H):Prop:=∀w∈d.weights P t,w≤140737488351232
def Fz (enc:TypeId×Value→H)(P:Program)(W:World)(fuel:Nat)(e:TypeId)(t:El)(ok:t.den→Prop):Prop:=
 ∀cs x,DataW.trod enc P W 0 (fun _=>true) true fuel e cs=some x→GL P e x.1→∃y:t.den,ok y∧RepL W gAll (t.cells y) cs
theorem wK {e:TypeId}{k:IntKind}(hu:P.underlying e=some (.int k))(fuel:Nat):Fz enc P W fuel e (.int k) (fun n=>(Lit.int k n).wf=true):=by
 intro cs x h _
 obtain ⟨y,h1,h2,_⟩:=ru (enc:=enc) (P:=P) (W:=W) (H:=H) counts hu fuel _ _ h
 exact ⟨y,h1,h2⟩
theorem Ba {e:TypeId}(hu:P.underlying e=some .string)(fuel:Nat):Fz enc P W fuel e .str (fun s=>s.length≤140737488351232):=by
 intro cs x h hw
 cases fuel with
 |zero=>cases h
 |succ fuel=>
  rw [DataW.trod_step] at h
  unfold DataW.trodStep at h
  rw [hu] at h
  simp only at h
  split at h<;>try (simp_all;done)
  rename_i s heq
  split at h
  ·rename_i hl
   cases h
   refine ⟨s.data.toList,?_,.cons (BZ s) .nil⟩
   exact hw _ (by simp [DataW.weights])
  ·cases h
theorem j7 {e:TypeId}{d:DataW H}:∀{l:List (DataW H)},d∈l→∀w∈d.weights P e,w∈DataW.weightsAll P e l
 |[],h,_,_=>by simp at h
 |d' :: l,h,w,hw=>by
  simp only [DataW.weightsAll,List.mem_append]
  rcases List.mem_cons.mp h with rfl|h
  ·exact .inl hw
  ·exact .inr (j7 h w hw)
theorem qg {T e:TypeId}{t:El}{ok:t.den→Prop}(hu:P.underlying T=some (.slice e))(hc:P.cellsOf e=t.size){B:Nat}(hB:P.bytesOf e=B){fuel:Nat}(hr:Fz enc P W fuel e t ok):
  Fz enc P W (fuel+1) T (.list t) (fun xs=>xs.length*B≤140737488351232∧∀x∈xs,ok x):=by
 intro cs x h hw
 rcases DataW.trod_slice hu h with ⟨rfl,rfl⟩|⟨a,len,cap,elems,rest,n,hn,rfl,rfl,_,hl,hm,hlen,hel,_,_⟩
 ·exact ⟨[],⟨by simp,fun x hx=>by simp at hx⟩,.cons (.lnil t none 0) .nil⟩
 ·obtain rfl:fuel=n:=by omega
  have hy:∀i,∃y:t.den,i<len→ok y∧(∀q,q<t.size→∃v,W.cell? (a.add (i*t.size+q))=some v∧∃(h:q<(t.cells y).length),RepA W gAll ((t.cells y)[q]) v):=by
   intro i
   by_cases hi:i<len
   ·have h0:=hel i hi
    have hie:i<elems.length:=by omega
    rw [List.getElem?_eq_getElem hie,Option.bind_eq_some_iff] at h0
    obtain ⟨cs',h1,h2⟩:=h0
    obtain ⟨y,q1,q2⟩:=hr _ _ h2 (fun w hw'=>hw w (by
     simp only [DataW.weights,hu,List.mem_cons,List.mem_append]
     exact .inr (.inl (j7 (List.mem_map.2 ⟨_,List.getElem_mem hie,rfl⟩) w hw'))))
    refine ⟨y,fun _=>⟨q1,fun q hq=>?_⟩⟩
    have hql:q<(t.cells y).length:=by rw [aP];exact hq
    have hqc:q<cs'.length:=by rw [q2.1];exact hql
    obtain ⟨c1,_⟩:=kP h1 (List.getElem?_eq_getElem hqc)
    refine ⟨cs'[q],?_,hql,q2.2 q hql hqc⟩
    rw [hc] at c1
    rw [←c1]
    congr 1
    unfold Addr.add
    by_cases z1:i*t.size=0
    ·simp [z1]
    ·by_cases z2:q=0
     ·simp [z2,z1]
     ·have:¬(i*t.size+q=0):=by omega
      simp only [z1,z2,this,if_false]
      congr 1
      omega
   ·have hz:Nonempty t.den:=by
     cases t<;>first|exact ⟨0⟩|exact ⟨false⟩|exact ⟨[]⟩|exact ⟨⟨0,0,false⟩⟩|exact ⟨.mk 0 0 0 [] [] [] []⟩|exact ⟨⟨[],[],[]⟩⟩|exact ⟨⟨0,0,0,0⟩⟩
    exact hz.elim fun z=>⟨z,fun h=>absurd h hi⟩
  let ys:Nat→t.den:=fun i=>(hy i).choose
  have hys:∀i,i<len→ok (ys i)∧(∀q,q<t.size→∃v,W.cell? (a.add (i*t.size+q))=some v∧∃(h:q<(t.cells (ys i)).length),RepA W gAll ((t.cells (ys i))[q]) v):=fun i hi=>(hy i).choose_spec hi
  have hlen':((List.range len).map ys).length=len:=by simp
  refine ⟨(List.range len).map ys,⟨?_,fun x hx=>?_⟩,.cons ?_ .nil⟩
  ·have h1:=hw ((elems.length+rest.length)*P.bytesOf e) (by simp [DataW.weights,hu])
   rw [hB] at h1
   rw [hlen']
   exact Nat.le_trans (Nat.mul_le_mul_right _ (by omega)) h1
  ·obtain ⟨i,hi,rfl⟩:=List.mem_map.1 hx
   exact (hys i (List.mem_range.1 hi)).1
  ·by_cases h0:len=0
   ·subst h0
    exact .lnil t (some a) cap
   ·have hspot:a=⟨a.block,a.off,none⟩:=by
     obtain ⟨v,hv,_⟩:=(hys 0 (by omega)).2 0 (eK t)
     rw [Nat.zero_mul] at hv
     have:a.add (0+0)=a:=rfl
     rw [this] at hv
     unfold World.cell? at hv
     obtain ⟨b,o,sp⟩:=a
     cases sp with
     |none=>rfl
     |some k=>
      simp only at hv
      split at hv
      ·simp at hv
      ·cases hv
    have hadd:∀j,a.add j=⟨a.block,a.off+j,none⟩:=by
     intro j
     rw [hspot]
     exact Addr.add_lit _ _ _
    have hfl:∀j (hj:j<(ap t ((List.range len).map ys)).length),∃v,W.cell? ⟨a.block,a.off+j,none⟩=some v∧RepA W gAll ((ap t ((List.range len).map ys))[j]) v:=by
     intro j hj
     rw [aw,hlen'] at hj
     have hs:=eK t
     have hq:j % t.size<t.size:=Nat.mod_lt _ hs
     have hi:j / t.size<len:=(Nat.div_lt_iff_lt_mul hs).2 hj
     have hjd:j / t.size*t.size+j % t.size=j:=by rw [Nat.mul_comm];exact Nat.div_add_mod j t.size
     obtain ⟨v,hv,hql,hrep⟩:=(hys _ hi).2 _ hq
     rw [hadd,hjd] at hv
     refine ⟨v,hv,?_⟩
     have hg:=fD t ((List.range len).map ys) (j / t.size) (ys (j / t.size)) (j % t.size) (by simp [hi]) hq
     rw [hjd] at hg
     have hj':j<(ap t ((List.range len).map ys)).length:=by rw [aw,hlen'];exact hj
     rw [List.getElem?_eq_getElem hj',List.getElem?_eq_getElem hql] at hg
     simp only [Option.some.injEq] at hg
     rw [hg];exact hrep
    have hrep:=RepA.list (w:=W) (g:=gAll) t ((List.range len).map ys) a.block a.off cap (fun j=>(W.cell? ⟨a.block,a.off+j,none⟩).getD undef) (by rw [hlen'];exact hl) (fun j hj=>?_) (fun j hj=>?_)
    ·rw [hlen',←hspot] at hrep
     exact hrep
    ·obtain ⟨v,hv,_⟩:=hfl j hj
     exact ⟨rfl,by rw [hv];rfl⟩
    ·obtain ⟨v,hv,hr⟩:=hfl j hj
     rw [hv];exact hr
theorem ge {α β:Type}{f:α→Option β}{a:α}{l:List α}{ys:List β}(h:(a :: l).mapM f=some ys):∃y zs,f a=some y∧l.mapM f=some zs∧ys=y :: zs:=by
 rw [List.mapM_cons] at h
 cases ha:f a with
 |none=>rw [ha] at h;simp at h
 |some y=>
  rw [ha] at h
  cases hl:l.mapM f with
  |none=>rw [hl] at h;simp at h
  |some zs=>
   rw [hl] at h
   simp at h
   exact ⟨y,zs,rfl,rfl,h.symm⟩
theorem sG {w:World}{g:Gh}{a:AV}{v:Value}(h:RepL w g [a] [v]):RepA w g a v:=h.2 0 (by simp) (by simp)
theorem AD {ts:List TypeId}{ds:List (DataW H)}(hsz:(DataW.weightsEach P ts ds).all (·≤reachBytes)=true){j:Nat}{T:TypeId}{d:DataW H}(ht:ts[j]?=some T)(hd:ds[j]?=some d):GL P T d:=by
 intro w hw
 have:=List.all_eq_true.1 hsz _ (DataW.weights_mem_each ht hd w hw)
 show w≤reachBytes
 exact of_decide_eq_true this
end
end Go.Proofs.YtjkokaockhecnaaGreatDoorA
