/- What a row's reading of the arguments says of them, in the machine's words; no condition. -/
import Derived.Test.YtjkokaockhecnaaGreatDoorRow
import Derived.WideShapes
import Derived.ChangeShapes
import Derived.ChangeMaps
import Derived.Deep.Slices
namespace Go.Proofs.YtjkokaockhecnaaGreatDoorA
open Go
theorem BZ {W:World}{g:Gh}(a:ByteArray):RepA W g (.str a.data.toList) (.string a):=by
 have:a=⟨a.data.toList.toArray⟩:=by cases a;simp
 generalize h:a.data.toList=l at this ⊢
 rw [this]
 exact .str l
def El.ok:(t:El)→t.den→Prop
 |.int k,n=>(Lit.int k n).wf=true
 |.bool,_=>True
 |.str,s=>s.length≤maxLen
 |.list e,xs=>xs.length≤maxLen∧∀x∈xs,e.ok x
 |.node,x=>(Lit.int .i64 x.kind).wf=true∧(Lit.int .i64 x.parent).wf=true
 |_,_=>True
def El.bulk:(t:El)→t.den→Nat
 |.str,s=>s.length+1
 |.list e,xs=>(xs.map e.bulk).sum+1
 |_,_=>1
section
variable {H:Type}{enc:TypeId×Value→H}{P:Program}{W:World}
def uk (bulk:DataW H→Nat)(enc:TypeId×Value→H)(P:Program)(W:World)(e:TypeId)(t:El):Prop:=
 ∀fuel cs x,DataW.trod enc P W 0 (fun _=>true) true fuel e cs=some x→∃y:t.den,t.ok y∧RepL W gAll (t.cells y) cs∧t.bulk y≤bulk x.1
structure sN (bulk:DataW H→Nat)(all:List (DataW H)→Nat):Prop where
 one:∀d,1≤bulk d
 str:∀l:List UInt8,bulk (.lit (.string l))=l.length+1
 slice:∀es sp,bulk (.slice es sp)=all es+all sp+1
 nil:all []=0
 cons:∀d l,all (d :: l)=bulk d+all l
theorem ru {bulk:DataW H→Nat}{all:List (DataW H)→Nat}(hb:sN bulk all){e:TypeId}{k:IntKind}(hu:P.underlying e=some (.int k)):uk bulk enc P W e (.int k):=by
 intro fuel cs x h
 cases fuel with
 |zero=>cases h
 |succ fuel=>
  rw [DataW.trod_step] at h
  unfold DataW.trodStep at h
  rw [hu] at h
  simp only at h
  split at h<;>try (simp_all;done)
  rename_i k'' k' n heq
  cases heq
  split at h
  ·rename_i hk
   obtain ⟨rfl,hwf⟩:=hk
   cases h
   exact ⟨n,hwf,.cons (.int _ _) .nil,hb.one _⟩
  ·cases h
theorem BK {bulk:DataW H→Nat}{all:List (DataW H)→Nat}(hb:sN bulk all){α:Type}{f:α→Nat}{D:Nat→DataW H}:∀(n:Nat) (ys:Nat→α),(∀i,i<n→f (ys i)≤bulk (D i))→(((List.range n).map ys).map f).sum≤all ((List.range n).map D):=by
 have app:∀l m:List (DataW H),all (l++m)=all l+all m:=by
  intro l m
  induction l with
  |nil=>simp [hb.nil]
  |cons d l ih=>simp only [List.cons_append,hb.cons,ih];omega
 intro n
 induction n with
 |zero=>intro ys _;simp
 |succ n ih=>
  intro ys h
  rw [List.range_succ,List.map_append,List.map_append,List.map_append,app]
  have h1:=ih ys fun i hi=>h i (by omega)
  have h2:=h n (by omega)
  simp only [List.map_cons,List.map_nil,List.sum_append,List.sum_cons,List.sum_nil,hb.cons,hb.nil]
  omega
theorem kP {a:Addr}{n i:Nat}{cs:List Value}{v:Value}(h:W.cells? 0 a n=some cs)(hi:cs[i]?=some v):W.cell? (a.add i)=some v∧cs.length=n:=by
 unfold World.cells? at h
 rw [if_pos (Nat.zero_le _)] at h
 have hl:cs.length=n:=by
  have:=mapM_some_length h
  simpa using this
 refine ⟨?_,hl⟩
 have hin:i<n:=by have:=(List.getElem?_eq_some_iff.mp hi).1;omega
 have:=mapM_some_get h i i (by simp [hin])
 rw [hi] at this
 exact this
theorem reads_list {bulk:DataW H→Nat}{all:List (DataW H)→Nat}(hb:sN bulk all){T e:TypeId}{t:El}(hu:P.underlying T=some (.slice e))(hc:P.cellsOf e=t.size)(hr:uk bulk enc P W e t):uk bulk enc P W T (.list t):=by
 intro fuel cs x h
 rcases Deep.open_slice hu h with ⟨rfl,rfl⟩|⟨a,len,cap,m,n,D,Pl,rfl,_,hl,hm,hmm,rfl,hx⟩
 ·exact ⟨[],⟨Nat.zero_le _,fun x hx=>by simp at hx⟩,.cons (.lnil t none 0) .nil,hb.one _⟩
 ·have hmc:m=cap:=by rw [hmm];rfl
  subst hmc
  -- the elements
  have hy:∀i,∃y:t.den,i<len→t.ok y∧(∀q,q<t.size→∃v,W.cell? (a.add (i*t.size+q))=some v∧∃(h:q<(t.cells y).length),RepA W gAll ((t.cells y)[q]) v)∧t.bulk y≤bulk (D i):=by
   intro i
   by_cases hi:i<len
   ·obtain ⟨cs',h1,h2⟩:=hx i (by omega)
    obtain ⟨y,q1,q2,q3⟩:=hr _ _ _ h2
    refine ⟨y,fun _=>⟨q1,fun q hq=>?_,q3⟩⟩
    have hql:q<(t.cells y).length:=by rw [aP];exact hq
    have hqc:q<cs'.length:=by rw [q2.1];exact hql
    obtain ⟨c1,_⟩:=kP h1 (List.getElem?_eq_getElem hqc)
    refine ⟨cs'[q],?_,hql,q2.2 q hql hqc⟩
    rw [hc] at c1
    rw [←c1]
    congr 1
    unfold Addr.add
    by_cases z1:i*t.size=0
    ·simp [z1]
    ·by_cases z2:q=0
     ·simp [z2,z1]
     ·have:¬(i*t.size+q=0):=by omega
      simp only [z1,z2,this,if_false]
      congr 1
      omega
   ·have hz:Nonempty t.den:=by
     cases t<;>first|exact ⟨0⟩|exact ⟨false⟩|exact ⟨[]⟩|exact ⟨⟨0,0,false⟩⟩|exact ⟨.mk 0 0 0 [] [] [] []⟩|exact ⟨⟨[],[],[]⟩⟩|exact ⟨⟨0,0,0,0⟩⟩
    exact hz.elim fun z=>⟨z,fun h=>absurd h hi⟩
  let ys:Nat→t.den:=fun i=>(hy i).choose
  have hys:∀i,i<len→t.ok (ys i)∧(∀q,q<t.size→∃v,W.cell? (a.add (i*t.size+q))=some v∧∃(h:q<(t.cells (ys i)).length),RepA W gAll ((t.cells (ys i))[q]) v)∧t.bulk (ys i)≤bulk (D i):=fun i hi=>(hy i).choose_spec hi
  have hlen:((List.range len).map ys).length=len:=by simp
  refine ⟨(List.range len).map ys,⟨by rw [hlen];omega,fun x hx=>?_⟩,.cons ?_ .nil,?_⟩
  ·obtain ⟨i,hi,rfl⟩:=List.mem_map.1 hx
   exact (hys i (List.mem_range.1 hi)).1
  ·by_cases h0:len=0
   ·subst h0
    exact .lnil t (some a) m
   ·have hspot:a=⟨a.block,a.off,none⟩:=by
     obtain ⟨v,hv,_⟩:=(hys 0 (by omega)).2.1 0 (eK t)
     rw [Nat.zero_mul] at hv
     have:a.add (0+0)=a:=rfl
     rw [this] at hv
     unfold World.cell? at hv
     obtain ⟨b,o,sp⟩:=a
     cases sp with
     |none=>rfl
     |some k=>
      simp only at hv
      split at hv
      ·simp at hv
      ·cases hv
    have hadd:∀j,a.add j=⟨a.block,a.off+j,none⟩:=by
     intro j
     rw [hspot]
     exact Addr.add_lit _ _ _
    have hfl:∀j (hj:j<(ap t ((List.range len).map ys)).length),∃v,W.cell? ⟨a.block,a.off+j,none⟩=some v∧RepA W gAll ((ap t ((List.range len).map ys))[j]) v:=by
     intro j hj
     rw [aw,hlen] at hj
     have hs:=eK t
     have hq:j % t.size<t.size:=Nat.mod_lt _ hs
     have hi:j / t.size<len:=(Nat.div_lt_iff_lt_mul hs).2 hj
     have hjd:j / t.size*t.size+j % t.size=j:=by rw [Nat.mul_comm];exact Nat.div_add_mod j t.size
     obtain ⟨v,hv,hql,hrep⟩:=(hys _ hi).2.1 _ hq
     rw [hadd,hjd] at hv
     refine ⟨v,hv,?_⟩
     have hg:=fD t ((List.range len).map ys) (j / t.size) (ys (j / t.size)) (j % t.size) (by simp [hi]) hq
     rw [hjd] at hg
     have hj':j<(ap t ((List.range len).map ys)).length:=by rw [aw,hlen];exact hj
     rw [List.getElem?_eq_getElem hj',List.getElem?_eq_getElem hql] at hg
     simp only [Option.some.injEq] at hg
     rw [hg];exact hrep
    have hrep:=RepA.list (w:=W) (g:=gAll) t ((List.range len).map ys) a.block a.off m (fun j=>(W.cell? ⟨a.block,a.off+j,none⟩).getD undef) (by rw [hlen];exact hl) (fun j hj=>?_) (fun j hj=>?_)
    ·rw [hlen,←hspot] at hrep
     exact hrep
    ·obtain ⟨v,hv,_⟩:=hfl j hj
     exact ⟨rfl,by rw [hv];rfl⟩
    ·obtain ⟨v,hv,hr⟩:=hfl j hj
     rw [hv];exact hr
  ·rw [hb.slice]
   have:=BK hb (f:=t.bulk) (D:=D) len ys fun i hi=>(hys i hi).2.2
   show (((List.range len).map ys).map t.bulk).sum+1≤_
   omega
end
end Go.Proofs.YtjkokaockhecnaaGreatDoorA
