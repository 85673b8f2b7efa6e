/- What a row's reading of a type says, in the machine's words; no condition. -/
import Derived.Test.YtjkokaockhecnaaGreatDoorArg2
namespace Go.Proofs.YtjkokaockhecnaaGreatDoorA
open Go Go.Proofs.YtjkokaockhecnaaGreatDoor
section
variable {H:Type}{enc:TypeId×Value→H}{P:Program}{W:World}
theorem tP {e:TypeId}{k:IntKind}(hu:P.underlying e=some (.int k)){fuel:Nat}{c:Value}{x:DataW H×List MemPlace}(h:DataW.trod enc P W 0 (fun _=>true) true fuel e [c]=some x):∃n,c=.int k n∧(Lit.int k n).wf=true:=by
 obtain ⟨y,h1,h2,_⟩:=ru (enc:=enc) (P:=P) (W:=W) (H:=H) counts hu fuel _ _ h
 have h3:RepA W gAll (.int k y) c:=h2.2 0 (by simp [El.cells]) (by simp)
 cases h3
 exact ⟨y,rfl,h1⟩
theorem xr {e:TypeId}(hu:P.underlying e=some .bool){fuel:Nat}{c:Value}{x:DataW H×List MemPlace}(h:DataW.trod enc P W 0 (fun _=>true) true fuel e [c]=some x):∃b,c=.bool b:=by
 cases fuel with
 |zero=>cases h
 |succ fuel=>
  rw [DataW.trod_step] at h
  unfold DataW.trodStep at h
  rw [hu] at h
  simp only at h
  split at h<;>try (simp_all;done)
  all_goals (rename_i b heq;exact ⟨b,by simp_all⟩)
theorem ke {T:TypeId}{fs:Array Field}(hu:P.underlying T=some (.struct fs)){fuel:Nat}{cs:List Value}{x:DataW H×List MemPlace}(h:DataW.trod enc P W 0 (fun _=>true) true fuel T cs=some x):
  ∃f xs,fuel=f+1∧cs.length=P.cellsOf T∧(fs.toList.mapM fun fd=>DataW.trod enc P W 0 (fun _=>true) true f fd.type ((cs.drop fd.offset).take (P.cellsOf fd.type)))=some xs∧x=(.agg (xs.map (·.1)),xs.flatMap (·.2)):=by
 cases fuel with
 |zero=>cases h
 |succ fuel=>
  rw [DataW.trod_step] at h
  unfold DataW.trodStep at h
  rw [hu] at h
  simp only at h
  split at h
  ·rename_i hl
   cases hm:(fs.toList.mapM fun fd=>DataW.trod enc P W 0 (fun _=>true) true fuel fd.type ((cs.drop fd.offset).take (P.cellsOf fd.type))) with
   |none=>rw [hm] at h;cases h
   |some xs=>
    rw [hm] at h
    simp only [Option.map_some,Option.some.injEq] at h
    exact ⟨fuel,xs,rfl,hl,hm,h.symm⟩
  ·cases h
theorem reads_node {e ti tb:TypeId}{fs:Array Field}(hu:P.underlying e=some (.struct fs))(hf:fs.toList.map (fun f=>(f.offset,f.type))=[(0,ti),(1,ti),(2,tb)])(hce:P.cellsOf e=3)(hci:P.cellsOf ti=1)(hcb:P.cellsOf tb=1)
  (hui:P.underlying ti=some (.int .i64)) (hub:P.underlying tb=some .bool):uk (H:=H) Rows.uptoBulk enc P W e .node:=by
 intro fuel cs x h
 obtain ⟨f,xs,rfl,hl,hm,rfl⟩:=ke hu h
 rw [hce] at hl
 match cs,hl with
 |[c0,c1,c2],_=>
  obtain ⟨f0,f1,f2,hfs⟩:∃f0 f1 f2,fs.toList=[f0,f1,f2]:=by
   have:=congrArg List.length hf
   simp only [List.length_map,List.length_cons,List.length_nil] at this
   match fs.toList,this with
   |[a,b,c],_=>exact ⟨a,b,c,rfl⟩
  rw [hfs] at hf hm
  simp only [List.map_cons,List.map_nil,List.cons.injEq,Prod.mk.injEq,and_true] at hf
  obtain ⟨⟨o0,t0⟩,⟨o1,t1⟩,⟨o2,t2⟩⟩:=hf
  simp only [List.mapM_cons,List.mapM_nil,o0,t0,o1,t1,o2,t2,hci,hcb] at hm
  cases h0:DataW.trod enc P W 0 (fun _=>true) true f ti (List.take 1 (List.drop 0 [c0,c1,c2])) with
  |none=>rw [h0] at hm;simp at hm
  |some y0=>
   rw [h0] at hm
   cases h1:DataW.trod enc P W 0 (fun _=>true) true f ti (List.take 1 (List.drop 1 [c0,c1,c2])) with
   |none=>rw [h1] at hm;simp at hm
   |some y1=>
    rw [h1] at hm
    cases h2:DataW.trod enc P W 0 (fun _=>true) true f tb (List.take 1 (List.drop 2 [c0,c1,c2])) with
    |none=>rw [h2] at hm;simp at hm
    |some y2=>
     obtain ⟨n0,rfl,w0⟩:=tP hui h0
     obtain ⟨n1,rfl,w1⟩:=tP hui h1
     obtain ⟨b2,rfl⟩:=xr hub h2
     exact ⟨⟨n0,n1,b2⟩,⟨w0,w1⟩,.cons (.int _ _) (.cons (.int _ _) (.cons (.bool _) .nil)),counts.one _⟩
theorem open_type {T TS e:TypeId}{t:El}{fs:Array Field}(hu:P.underlying T=some (.struct fs))(hf:fs.toList.map (fun f=>(f.offset,f.type))=[(0,TS)])(hc:P.cellsOf T=1)(hcs:P.cellsOf TS=1)(hs:P.underlying TS=some (.slice e)){B:Nat}(hB:P.bytesOf e=B)
  (hr:uk (H:=H) Rows.uptoBulk enc P W TS (.list t)) {r:Reach}{base:Nat}{v:Value} (hval:Value.okWide P W r base T v) {d:DataW H}{ps:List MemPlace} (h:DataW.Trod enc P W 0 (fun _=>true) true T v d ps)
  {ts:List TypeId}{ds:List (DataW H)} (hsz:(DataW.weightsEach P ts ds).all (·≤reachBytes)=true) {j:Nat} (ht:ts[j]?=some T) (hd:ds[j]?=some d):
  ∃(vv:Value) (xs:List t.den),v=.agg #[vv]∧RepA W gAll (.L t xs) vv∧(∀x∈xs,El.ok t x)∧xs.length*B≤140737488351232∧(El.list t).bulk xs+1≤Rows.uptoBulk d:=by
 obtain ⟨cs,rfl,hsize⟩:=WideShapes.okWide_struct hu hval
 obtain ⟨fuel,hfu⟩:=h
 obtain ⟨f,xs,rfl,hl,hm,hx⟩:=ke hu hfu
 rw [hc] at hsize
 obtain ⟨vv,rfl⟩:∃vv,cs=#[vv]:=by
  obtain ⟨l⟩:=cs
  match l,hsize with
  |[a],_=>exact ⟨a,rfl⟩
 obtain ⟨f0,hfs⟩:∃f0,fs.toList=[f0]:=by
  have:=congrArg List.length hf
  simp only [List.length_map,List.length_cons,List.length_nil] at this
  match fs.toList,this with
  |[a],_=>exact ⟨a,rfl⟩
 rw [hfs] at hf hm
 simp only [List.map_cons,List.map_nil,List.cons.injEq,Prod.mk.injEq,and_true] at hf
 obtain ⟨o0,t0⟩:=hf
 simp only [List.mapM_cons,List.mapM_nil,o0,t0,hcs] at hm
 cases h0:DataW.trod enc P W 0 (fun _=>true) true f TS (List.take 1 (List.drop 0 (Value.agg #[vv]).cells.toList)) with
 |none=>rw [h0] at hm;simp at hm
 |some y0=>
  rw [h0] at hm
  simp at hm
  subst hm
  simp only [List.map_cons,List.map_nil] at hx
  obtain ⟨hd0,_⟩:=Prod.mk.inj hx
  have h0':DataW.trod enc P W 0 (fun _=>true) true f TS [vv]=some y0:=h0
  obtain ⟨ys,q1,q2,q3⟩:=hr f _ _ h0'
  have q4:RepA W gAll (.L t ys) vv:=q2.2 0 (by simp [El.cells]) (by simp)
  refine ⟨vv,ys,rfl,q4,q1.2,?_,?_⟩
  ·rcases Deep.open_slice hs h0' with ⟨hcs0,_⟩|⟨a,len,cap,m,n,D,Pl,hcs0,_,hle,_,hmm,hy,_⟩
   ·have:vv=.slice none 0 0:=by simpa using hcs0
    subst this
    cases q4
    simp
   ·have hvv:vv=.slice (some a) len cap:=by simpa using hcs0
    subst hvv
    have hlen:ys.length=len:=by cases q4<;>rfl
    have hmem:(len+(m - len))*P.bytesOf e∈DataW.weightsEach P ts ds:=by
     refine DataW.weights_mem_each ht hd _ ?_
     subst hd0
     rw [hy]
     simp only [DataW.weights,hu,hfs,List.map_cons,List.map_nil,t0,DataW.weightsEach,hs,List.mem_append,List.mem_cons,List.length_map,List.length_range]
     exact .inl (.inl trivial)
    have z:=List.all_eq_true.1 hsz _ hmem
    have z':(len+(m - len))*P.bytesOf e≤reachBytes:=by simpa using z
    rw [hB] at z'
    rw [hlen]
    exact Nat.le_trans (Nat.mul_le_mul_right _ (by omega)) z'
  ·subst hd0
   simp only [Rows.uptoBulk,Rows.uptoBulkAll]
   omega
end
end Go.Proofs.YtjkokaockhecnaaGreatDoorA
