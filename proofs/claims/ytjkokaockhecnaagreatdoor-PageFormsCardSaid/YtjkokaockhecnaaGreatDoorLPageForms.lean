/- PageForms: for every input the law quiverlaw22.PageForms returns true, and each argument reads afterwards as it read before; no condition. -/
import Derived.Test.YtjkokaockhecnaaGreatDoorRows
import Derived.Test.YtjkokaockhecnaaGreatDoorCards
import Derived.Test.YtjkokaockhecnaaGreatDoorTie
import Derived.Test.YtjkokaockhecnaaGreatDoorPPf
import Derived.Test.YtjkokaockhecnaaGreatDoorArg5
import Derived.WalkKit
import Derived.ProofKit
import Derived.OpenShut
import Derived.ShutString
import Derived.ChangeOld
import Derived.Below
import Derived.Carry
import Derived.SizedLaws
import Derived.KernelRfl
import Derived.Handy
import Derived.Lay
import Derived.SevenTiedAt
import Derived.LaidSub
import Derived.Stop.LaidErr
import Derived.Shelf.Vars
namespace Go.Proofs.YtjkokaockhecnaaGreatDoorA
open Go
set_option linter.unusedVariables false
theorem walk_pageForms (a0:Int)(a1:Int)(W:World)(w0:(Lit.int .i64 a0).wf=true)(w1:(Lit.int .i64 a1).wf=true)(hT:Tabs W):
  Calls Go.Proofs.Tryz.prog 6 #[.int .i64 a0,.int .i64 a1] W fun e w'=>e=.returned (.bool true)∧RowKit.Below W.heap.size W w':=by
 have h0:=i64_wf w0
 have h1:=i64_wf w1
 obtain ⟨k,h⟩:=YtjkokaockhecnaaGreatDoorP.pure_PageForms a0 a1
 exact (lv_ok k).law (f:=6) (us:=[.int .i64 a0,.int .i64 a1]) (r:=true) h (by kernel_rfl) HEq.rfl (vals:=[.int .i64 a0,.int .i64 a1]) (tabs_ok hT)
  (.cons (.int _ _) (.cons (.int _ _) .nil))
end Go.Proofs.YtjkokaockhecnaaGreatDoorA
namespace Go.Proofs.YtjkokaockhecnaaGreatDoor.pageForms
open Go.ChangeShapes Go.WideShapes Go.ChangeAt Go.RowKit
open Go.ChangeMaps (open_string shut_string)
set_option linter.unusedVariables false
theorem own:ownKnob Tryz.prog.godebug=none:=by kernel_rfl
theorem laidOut:laidOutB Tryz.prog=true:=by kernel_rfl
theorem star: "*" ++ "errors.errorString" = "*errors.errorString" :=by decide
theorem errRow (u:TypeId)(h:Tryz.prog.typeName? 3 u=some "*errors.errorString"):u=225:=
 typeName_ptr_named (nm:= "errors.errorString") (by rw [star];kernel_rfl) (by kernel_rfl) (by decide) u (by rw [star];exact h)
set_option maxRecDepth 100000 in
theorem lifted (os:Os)(started:os.Started)(H:Type)(enc:TypeId×Value→H):
  ReturnsInHanded {} Tryz.checked os 6 .any (fun w args=>(Rows.pageFormsSpec.pre enc Tryz.prog Tryz.f6 Rows.pageFormsRow.domain false w args∧laidMetH Tryz.prog Rows.pageFormsRow.laid w)∧sizedMet enc Tryz.prog Tryz.f6 (OpenSpec.ofChange Rows.pageFormsSpec) false w args)
   (Rows.pageFormsSpec.post enc Tryz.prog Tryz.f6 false true false false):=by
 refine YtjkokaockhecnaaGreatDoorA.returns_and_shaped (C:=Tryz.checked) (X:=fun w _=>laidMetH Tryz.prog Rows.pageFormsRow.laid w) (fun _ _ _ hh h=>h.of_heap hh) own started (by kernel_rfl) Tryz.func6
  (ChangeSpec.witness_shaped (enc:=enc) (C:=Tryz.checked) (os:=os) (X:=fun w _=>laidMetH Tryz.prog Rows.pageFormsRow.laid w) false (World.laidAll Tryz.prog os Rows.pageFormsRow.laid) #[.int .i64 0,.int .i64 0] 8 (World.laidAll_os _ _ _)
   (World.shaped_of_ZipB (by kernel_rfl) (by kernel_rfl)) (by kernel_rfl) (by kernel_rfl) (by kernel_rfl)
   (by rw [MakeChecks.laidMetH_plain _ _ _ (by kernel_rfl)];exact laidMet_laidAll _ (by kernel_rfl) (by kernel_rfl))) ?_
 intro W base args ds gs before hval0 hW hcnd hsz0 hL hsh _
 have hsz:(DataW.weightsEach Tryz.prog (Tryz.f6.params.toList++Rows.pageFormsSpec.plain.varTypes Tryz.prog) (ds++gs)).all (·≤reachBytes)=true:=hsz0
 rw [MakeChecks.laidMetH_plain _ _ _ (by kernel_rfl)] at hL
 have e0:Rows.pageFormsRow.laid.filter (fun x=>x.1== "strconv.ErrSyntax")=[("strconv.ErrSyntax",.iface "*errors.errorString" (.ptr (.agg [.lit (.string [105,110,118,97,108,105,100,32,115,121,110,116,97,120])])))]:=by kernel_rfl
 have l0:=laidMet.filter (fun x=>x.1== "strconv.ErrSyntax") hL
 rw [e0] at l0
 have s0:YtjkokaockhecnaaGreatDoorA.SentIs Tryz.prog W "strconv.ErrSyntax" :=by
  obtain ⟨b,s,h,_⟩:=laid_sentinel (g:=0) (ti:=93) (tp:=225) (te:=227) (ts:=9) l0 (by kernel_rfl) (by kernel_rfl) Tryz.underlying93 errRow Tryz.underlying225 Tryz.underlying227 rfl rfl Tryz.underlying9 (by kernel_rfl) (by kernel_rfl)
  exact ⟨_,_,h⟩
 have e1:Rows.pageFormsRow.laid.filter (fun x=>x.1== "strconv.ErrRange")=[("strconv.ErrRange",.iface "*errors.errorString" (.ptr (.agg [.lit (.string [118,97,108,117,101,32,111,117,116,32,111,102,32,114,97,110,103,101])])))]:=by kernel_rfl
 have l1:=laidMet.filter (fun x=>x.1== "strconv.ErrRange") hL
 rw [e1] at l1
 have s1:YtjkokaockhecnaaGreatDoorA.SentIs Tryz.prog W "strconv.ErrRange" :=by
  obtain ⟨b,s,h,_⟩:=laid_sentinel (g:=1) (ti:=93) (tp:=225) (te:=227) (ts:=9) l1 (by kernel_rfl) (by kernel_rfl) Tryz.underlying93 errRow Tryz.underlying225 Tryz.underlying227 rfl rfl Tryz.underlying9 (by kernel_rfl) (by kernel_rfl)
  exact ⟨_,_,h⟩
 have e2:Rows.pageFormsRow.laid.filter (fun x=>x.1== "internal/strconv.uint64pow10")=[("internal/strconv.uint64pow10",Lib.tabData .u64 Lib.pow10Tab)]:=by kernel_rfl
 have l2:=laidMet.filter (fun x=>x.1== "internal/strconv.uint64pow10") hL
 rw [e2] at l2
 have s3:YtjkokaockhecnaaGreatDoorA.IntIs Tryz.prog W "internal/bytealg.MaxLen" :=by
  obtain ⟨m,h⟩:=cell_of_shapedOpen_int (P:=Tryz.prog) (g:=3) (t:=3) (zero:=#[.int .i64 0]) (k:=.i64) hsh (of_decide_eq_true (by kernel_rfl)) (by kernel_rfl) rfl (by kernel_rfl) (by kernel_rfl) Tryz.underlying3
  exact ⟨3,m,by kernel_rfl,h⟩
 have hT:YtjkokaockhecnaaGreatDoorA.Tabs W:=⟨s0,s1,Lib.tabIs_of_head (g:=2) (t:=235) (e:=148) (n:=20) (by kernel_rfl) (by kernel_rfl) (by kernel_rfl) (by kernel_rfl) (by kernel_rfl) (by kernel_rfl) l2,s3⟩
 have hval:∀(j:Nat) t v,Tryz.f6.params[j]?=some t→args[j]?=some v→Value.okWide Tryz.prog W .any base t v:=hval0
 have hW':=hW
 obtain ⟨p,q,hA0,hV,rfl,hfz,hnd⟩:=hW
 have hA:DataW.TrodAll enc Tryz.prog W 0 (fun _=>true) true Tryz.f6.params.toList args.toList ds p:=hA0
 rw [Tryz.params6] at hA hval hsz
 obtain ⟨v0,vs0,d0,ds0,p0,q0,hargs,rfl,rfl,k0,t0⟩:=trodAll_cons hA
 obtain ⟨v1,vs1,d1,ds1,p1,q1,rfl,rfl,rfl,k1,t1⟩:=trodAll_cons t0
 obtain ⟨rfl,rfl,rfl⟩:=trodAll_nil t1
 obtain rfl:args=#[v0,v1]:=by cases args;simp_all
 obtain ⟨rfl,rfl⟩:=trodVars_none hV
 have m0:∀x∈p0,x.block<W.heap.size:=by obtain ⟨m,hm⟩:=k0;exact DataW.trod_lt m _ _ _ hm
 have z0:=k0
 obtain ⟨a0,rfl,rfl,rfl,w0⟩:=open_int Tryz.underlying3 (hval 0 3 v0 rfl rfl) k0
 have m1:∀x∈p1,x.block<W.heap.size:=by obtain ⟨m,hm⟩:=k1;exact DataW.trod_lt m _ _ _ hm
 have z1:=k1
 obtain ⟨a1,rfl,rfl,rfl,w1⟩:=open_int Tryz.underlying3 (hval 1 3 v1 rfl rfl) k1
 clear hA0 hval0 hsz0 hsz
 refine (YtjkokaockhecnaaGreatDoorA.walk_pageForms a0 a1 W w0 w1 hT).mono fun e W' ⟨he,bel⟩=>?_
 subst he
 exact ⟨_,rfl,_,_,_,[],_,[],hW',trodAll_mk1 (shut_bool Tryz.underlying4 _),(trodAll_cons_mk (Below.trod laidOut (by kernel_rfl) (of_decide_eq_true (by kernel_rfl)) z0 bel m0) (trodAll_cons_mk (Below.trod laidOut (by kernel_rfl) (of_decide_eq_true (by kernel_rfl)) z1 bel m1) trodAll_mk0)),rfl,bel.frame _,fun h=>by cases h⟩
theorem over:Rows.pageFormsRow.holds Tryz.pinned (OpenSpec.ofChange Rows.pageFormsSpec):=
 OpenClaim.holds_of_wide 6 Tryz.f6 rfl rfl rfl rfl rfl rfl rfl ⟨rfl,rfl,rfl,rfl,rfl⟩ rfl rfl rfl rfl rfl (by kernel_rfl) Tryz.func6 (by kernel_rfl)
  (of_decide_eq_true (by kernel_rfl)) (by unfold Func.isWrapper;first|(rw [if_pos (by decide+kernel)];kernel_rfl)|(rw [if_neg (by decide+kernel)];exact ⟨rfl,rfl⟩))
  (fun os started H enc _=>lifted os started H enc)
theorem card:Rows.PageFormsCardSaid:=
 Claim7.holds_tied_plain_at .later [] [.data,.data,.data,.sentinel,.sentinel] true (true, "52845fe508dcabec48b8c09b0971282379919c52e0c7981bd53bbdeed90f8ec4") true over (fun _ h=>by cases h) (by kernel_rfl) (fun _ h=>by cases h) pageForms_row_tie rfl ⟨rfl,rfl⟩ (by kernel_rfl) rfl
  (fun f fn hf hfn=>by
   obtain rfl:f=6:=Option.some.inj ((show Tryz.prog.funcNamed "quiver/quiverlaw22.PageForms" =some 6 by kernel_rfl).symm.trans hf) |>.symm
   obtain rfl:fn=Tryz.f6:=(Option.some.inj (Tryz.func6.symm.trans hfn)).symm
   exact ⟨by kernel_rfl,fun j t ht=>by
    rw [Tryz.params6] at ht
    have hm:t∈[3,3]:=by simpa using Array.mem_of_getElem? ht
    have hall:([3,3].all fun u=>!Tryz.prog.wantsStandIn u)=true:=by kernel_rfl
    exact (show Tryz.prog.wantsStandIn t=false by simpa using List.all_eq_true.1 hall t hm)⟩)
  (by kernel_rfl)
end Go.Proofs.YtjkokaockhecnaaGreatDoor.pageForms
namespace Go.Proofs.YtjkokaockhecnaaGreatDoor
theorem pageForms_holds:Rows.PageFormsCardSaid:=pageForms.card
#print axioms pageForms_holds
end Go.Proofs.YtjkokaockhecnaaGreatDoor
