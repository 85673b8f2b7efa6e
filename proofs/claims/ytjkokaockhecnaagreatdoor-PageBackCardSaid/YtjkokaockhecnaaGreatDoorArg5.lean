/- What a row's reading of a column says, in the machine's words; a row's reading beside the world's shape; no condition. -/
import Derived.Test.YtjkokaockhecnaaGreatDoorArg4
import Derived.Handed
import Derived.SizedLaws
import Derived.Shelf.Vars
namespace Go.Proofs.YtjkokaockhecnaaGreatDoorA
open Go Go.Proofs.YtjkokaockhecnaaGreatDoor
section
variable {H:Type}{enc:TypeId×Value→H}{P:Program}{W:World}
structure zG (P:Program)(TC tI tT ti ts:TypeId):Prop where
 fs:∃fs,P.underlying TC=some (.struct fs)∧fs.toList.map (fun f=>(f.offset,f.type))=[(0,tI),(1,tI),(2,tT)]
 cc:P.cellsOf TC=3
 cI:P.cellsOf tI=1
 cT:P.cellsOf tT=1
 ci:P.cellsOf ti=1
 cs:P.cellsOf ts=1
 uI:P.underlying tI=some (.slice ti)
 uT:P.underlying tT=some (.slice ts)
 ui:P.underlying ti=some (.int .i64)
 us:P.underlying ts=some .string
 bi:P.bytesOf ti=8
 bs:P.bytesOf ts=16
theorem Bw {TC tI tT ti ts:TypeId}(hT:zG P TC tI tT ti ts)(fuel:Nat):Fz enc P W fuel TC .col RoomyC:=by
 intro cs x h hw
 cases fuel with
 |zero=>simp [DataW.trod] at h
 |succ fuel=>
  obtain ⟨fs,hu,hf⟩:=hT.fs
  obtain ⟨f,xs,hff,hl,hm,rfl⟩:=ke hu h
  obtain rfl:fuel=f:=by omega
  rw [hT.cc] at hl
  match cs,hl with
  |[c0,c1,c2],_=>
   obtain ⟨f0,f1,f2,hfs⟩:∃f0 f1 f2,fs.toList=[f0,f1,f2]:=by
    have:=congrArg List.length hf
    simp only [List.length_map,List.length_cons,List.length_nil] at this
    match fs.toList,this with
    |[a,b,c],_=>exact ⟨a,b,c,rfl⟩
   rw [hfs] at hf hm
   simp only [List.map_cons,List.map_nil,List.cons.injEq,Prod.mk.injEq,and_true] at hf
   obtain ⟨⟨o0,t0⟩,⟨o1,t1⟩,⟨o2,t2⟩⟩:=hf
   obtain ⟨y0,z0,h0,hm0,rfl⟩:=ge hm
   obtain ⟨y1,z1,h1,hm1,rfl⟩:=ge hm0
   obtain ⟨y2,z2,h2,hm2,rfl⟩:=ge hm1
   simp only [List.mapM_nil,Option.pure_def,Option.some.injEq] at hm2
   subst hm2
   rw [o0,t0,hT.cI] at h0
   rw [o1,t1,hT.cI] at h1
   rw [o2,t2,hT.cT] at h2
   have wts:∀w,w∈y0.1.weights P tI++(y1.1.weights P tI++y2.1.weights P tT)→w≤140737488351232:=by
    intro w hw'
    refine hw w ?_
    simp only [List.map_cons,List.map_nil,DataW.weights,hu,hfs,t0,t1,t2,DataW.weightsEach,List.append_nil]
    exact hw'
   have zero:∀fuel' e (cs:List Value) x,DataW.trod enc P W 0 (fun _=>true) true fuel' e cs=some x→fuel'≠0:=fun fuel' e cs x h e'=>by subst e';simp [DataW.trod] at h
   obtain ⟨fuel,rfl⟩:∃q,fuel=q+1:=⟨fuel - 1,by have:=zero _ _ _ _ h0;omega⟩
   obtain ⟨n0,w0,r0⟩:=qg hT.uI (by rw [hT.ci];rfl) hT.bi (wK hT.ui fuel) _ _ h0 (fun w hw'=>wts w (by simp [hw']))
   obtain ⟨n1,w1,r1⟩:=qg hT.uI (by rw [hT.ci];rfl) hT.bi (wK hT.ui fuel) _ _ h1 (fun w hw'=>wts w (by simp [hw']))
   obtain ⟨n2,w2,r2⟩:=qg hT.uT (by rw [hT.cs];rfl) hT.bs (Ba hT.us fuel) _ _ h2 (fun w hw'=>wts w (by simp [hw']))
   exact ⟨⟨n0,n1,n2⟩,⟨⟨w0.1,fun n hn=>i64_wf (w0.2 n hn)⟩,⟨w1.1,fun n hn=>i64_wf (w1.2 n hn)⟩,w2⟩,.cons (sG r0) (.cons (sG r1) (.cons (sG r2) .nil))⟩
theorem open_col {TC tI tT ti ts:TypeId}(hT:zG P TC tI tT ti ts){r:Reach}{base:Nat}{v:Value}(hval:Value.okWide P W r base TC v){d:DataW H}{ps:List MemPlace}(h:DataW.Trod enc P W 0 (fun _=>true) true TC v d ps)
  {tt:List TypeId}{ds:List (DataW H)} (hsz:(DataW.weightsEach P tt ds).all (·≤reachBytes)=true) {j:Nat} (ht:tt[j]?=some TC) (hd:ds[j]?=some d):
  ∃(vs:List Value) (x:Col),v=.agg vs.toArray∧RepL W gAll (El.col.cells x) vs∧RoomyC x:=by
 obtain ⟨fs,hu,_⟩:=hT.fs
 obtain ⟨cs,rfl,hsize⟩:=WideShapes.okWide_struct hu hval
 obtain ⟨fuel,hf⟩:=h
 obtain ⟨y,h1,h2⟩:=Bw hT fuel _ _ hf (AD hsz ht hd)
 exact ⟨cs.toList,y,by simp,h2,h1⟩
theorem returns_and_shaped {a:Assume}{C:Checked}{os:Os}{f:FuncId}{fn:Func}{s:ChangeSpec}{conds:List PathCond}{apart tq handsOn again:Bool}{X:World→Array Value→Prop}
  (hX:∀(w w':World) (args:Array Value),w.heap=w'.heap→X w args→X w' args)
  (own:ownKnob C.prog.godebug=none) (started:os.Started) (noInit:C.prog.inits.idxOf? f=none) (hfn:C.prog.funcs[f]?=some fn)
  (witness:∃(w:World) (tape:Tape) (i:Input),w.os=os∧(w.forCall tape i).Shaped C.prog∧i.vars=[]∧Input.okWide C.prog (w.forCall tape i) .any w.heap.size f i∧
   ((s.pre enc C.prog fn conds apart (w.forCall tape i).memory i.args∧X (w.forCall tape i).memory i.args)∧sizedMet enc C.prog fn (OpenSpec.ofChange s) apart (w.forCall tape i).memory i.args)∧a.holds C.prog (lone (Frame.enter C.prog f i.args .normal) [] (w.forCall tape i)))
  (contract:∀(W:World) (base:Nat) (args:Array Value) (ds gs:List (DataW H)) (before:List MemPlace),
   (∀(j:Nat) t v,fn.params[j]?=some t→args[j]?=some v→Value.okWide C.prog W .any base t v)→
   DataW.Whole enc C.prog fn.params.toList s.vars apart W args.toList ds gs before→
   conds.all (PathCond.test C.prog ⟨fn.params.toList,ds,s.plain.varTypes C.prog,gs⟩)=true→
   (DataW.weightsEach C.prog (fn.params.toList++s.plain.varTypes C.prog) (ds++gs)).all (·≤reachBytes)=true→X W args→
   W.ShapedOpen C.prog→
   a.holds C.prog (lone (Frame.enter C.prog f args .normal) [] W)→
   Calls C.prog f args W fun e W'=>∃v,e=.returned v∧s.post enc C.prog fn apart tq handsOn again W args v W'):
  ReturnsInHanded a C os f .any (fun w args=>(s.pre enc C.prog fn conds apart w args∧X w args)∧sizedMet enc C.prog fn (OpenSpec.ofChange s) apart w args) (s.post enc C.prog fn apart tq handsOn again):=by
 refine returnsInHanded_of_calls own started noInit witness ?_
 intro w tape i _ hsh _ hok hpre hholds
 obtain ⟨_,_,_,fn',hfn',_,_,_,_,hval⟩:=hok
 have e:fn'=fn:=Option.some.inj (hfn'.symm.trans hfn)
 subst e
 obtain ⟨⟨⟨ds,gs,before,hw,hc⟩,hx⟩,hz⟩:=hpre
 have hw':=DataW.Whole.of_heap (w':=w.forCall tape i) (by rfl) hw
 refine (contract (w.forCall tape i) w.heap.size i.args ds gs before hval hw' hc (hz.weights hw) (hX _ _ _ (by rfl) hx) hsh hholds).mono fun e W' ⟨v,he,hp⟩=>?_
 subst he
 exact ChangeSpec.post_blind hp
end
end Go.Proofs.YtjkokaockhecnaaGreatDoorA
