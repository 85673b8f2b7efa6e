/- EqualOne: for every input the law quiverlaw15.EqualOne returns true, and each argument reads afterwards as it read before; no condition. -/
import Derived.Test.YtjkokaockhecnaaGreatDoorRows
import Derived.Test.YtjkokaockhecnaaGreatDoorCards
import Derived.Test.YtjkokaockhecnaaGreatDoorTie
import Derived.Test.YtjkokaockhecnaaGreatDoorPOne
import Derived.Test.YtjkokaockhecnaaGreatDoorArg3
import Derived.WalkKit
import Derived.ProofKit
import Derived.OpenShut
import Derived.ShutString
import Derived.ChangeOld
import Derived.Below
import Derived.Carry
import Derived.SizedLaws
import Derived.KernelRfl
import Derived.Handy
import Derived.Lay
import Derived.SevenTiedAt
import Derived.LaidSub
namespace Go.Proofs.YtjkokaockhecnaaGreatDoorA
open Go
set_option linter.unusedVariables false
theorem walk_equalOne (a0:Int)(a1:Int)(a2:Int)(W:World)(w0:(Lit.int .i64 a0).wf=true)(w1:(Lit.int .i64 a1).wf=true)(w2:(Lit.int .i64 a2).wf=true)(hT:Tabs W):
  Calls Go.Proofs.Tryz.prog 3 #[.int .i64 a0,.int .i64 a1,.int .i64 a2] W fun e w'=>e=.returned (.bool true)∧RowKit.Below W.heap.size W w':=by
 have h0:=i64_wf w0
 have h1:=i64_wf w1
 have h2:=i64_wf w2
 obtain ⟨k,h⟩:=YtjkokaockhecnaaGreatDoorP.pure_EqualOne a0 a1 a2
 exact (lv_ok k).law (f:=3) (us:=[.int .i64 a0,.int .i64 a1,.int .i64 a2]) (r:=true) h (by kernel_rfl) HEq.rfl (vals:=[.int .i64 a0,.int .i64 a1,.int .i64 a2]) (tabs_ok hT)
  (.cons (.int _ _) (.cons (.int _ _) (.cons (.int _ _) .nil)))
end Go.Proofs.YtjkokaockhecnaaGreatDoorA
namespace Go.Proofs.YtjkokaockhecnaaGreatDoor.equalOne
open Go.ChangeShapes Go.WideShapes Go.ChangeAt Go.RowKit
open Go.ChangeMaps (open_string shut_string)
set_option linter.unusedVariables false
theorem own:ownKnob Tryz.prog.godebug=none:=by kernel_rfl
theorem laidOut:laidOutB Tryz.prog=true:=by kernel_rfl
set_option maxRecDepth 100000 in
theorem lifted (os:Os)(started:os.Started)(H:Type)(enc:TypeId×Value→H):
  ReturnsInHanded {} Tryz.checked os 3 .any (fun w args=>(Rows.equalOneSpec.pre enc Tryz.prog Tryz.f3 Rows.equalOneRow.domain false w args∧laidMetH Tryz.prog Rows.equalOneRow.laid w)∧sizedMet enc Tryz.prog Tryz.f3 (OpenSpec.ofChange Rows.equalOneSpec) false w args)
   (Rows.equalOneSpec.post enc Tryz.prog Tryz.f3 false true false false):=by
 refine returnsInHanded_of_change_and (C:=Tryz.checked) (X:=fun w _=>laidMetH Tryz.prog Rows.equalOneRow.laid w) (fun _ _ _ hh h=>h.of_heap hh) own started (by kernel_rfl) Tryz.func3
  (ChangeSpec.witness_shaped (enc:=enc) (C:=Tryz.checked) (os:=os) (X:=fun w _=>laidMetH Tryz.prog Rows.equalOneRow.laid w) false (World.laidAll Tryz.prog os Rows.equalOneRow.laid) #[.int .i64 0,.int .i64 0,.int .i64 0] 8 (World.laidAll_os _ _ _)
   (World.shaped_of_ZipB (by kernel_rfl) (by kernel_rfl)) (by kernel_rfl) (by kernel_rfl) (by kernel_rfl)
   (by rw [MakeChecks.laidMetH_plain _ _ _ (by kernel_rfl)];exact laidMet_laidAll _ (by kernel_rfl) (by kernel_rfl))) ?_
 intro W base args ds gs before hval0 hW hcnd hsz0 hL _
 have hsz:(DataW.weightsEach Tryz.prog (Tryz.f3.params.toList++Rows.equalOneSpec.plain.varTypes Tryz.prog) (ds++gs)).all (·≤reachBytes)=true:=hsz0
 rw [MakeChecks.laidMetH_plain _ _ _ (by kernel_rfl)] at hL
 have e2:Rows.equalOneRow.laid.filter (fun x=>x.1== "internal/strconv.uint64pow10")=[("internal/strconv.uint64pow10",Lib.tabData .u64 Lib.pow10Tab)]:=by kernel_rfl
 have l2:=laidMet.filter (fun x=>x.1== "internal/strconv.uint64pow10") hL
 rw [e2] at l2
 have hT:YtjkokaockhecnaaGreatDoorA.Tabs W:=Lib.tabIs_of_head (g:=2) (t:=235) (e:=148) (n:=20) (by kernel_rfl) (by kernel_rfl) (by kernel_rfl) (by kernel_rfl) (by kernel_rfl) (by kernel_rfl) l2
 have hval:∀(j:Nat) t v,Tryz.f3.params[j]?=some t→args[j]?=some v→Value.okWide Tryz.prog W .any base t v:=hval0
 have hW':=hW
 obtain ⟨p,q,hA0,hV,rfl,hfz,hnd⟩:=hW
 have hA:DataW.TrodAll enc Tryz.prog W 0 (fun _=>true) true Tryz.f3.params.toList args.toList ds p:=hA0
 rw [Tryz.params3] at hA hval hsz
 obtain ⟨v0,vs0,d0,ds0,p0,q0,hargs,rfl,rfl,k0,t0⟩:=trodAll_cons hA
 obtain ⟨v1,vs1,d1,ds1,p1,q1,rfl,rfl,rfl,k1,t1⟩:=trodAll_cons t0
 obtain ⟨v2,vs2,d2,ds2,p2,q2,rfl,rfl,rfl,k2,t2⟩:=trodAll_cons t1
 obtain ⟨rfl,rfl,rfl⟩:=trodAll_nil t2
 obtain rfl:args=#[v0,v1,v2]:=by cases args;simp_all
 obtain ⟨rfl,rfl⟩:=trodVars_none hV
 have m0:∀x∈p0,x.block<W.heap.size:=by obtain ⟨m,hm⟩:=k0;exact DataW.trod_lt m _ _ _ hm
 have z0:=k0
 obtain ⟨a0,rfl,rfl,rfl,w0⟩:=open_int Tryz.underlying3 (hval 0 3 v0 rfl rfl) k0
 have m1:∀x∈p1,x.block<W.heap.size:=by obtain ⟨m,hm⟩:=k1;exact DataW.trod_lt m _ _ _ hm
 have z1:=k1
 obtain ⟨a1,rfl,rfl,rfl,w1⟩:=open_int Tryz.underlying3 (hval 1 3 v1 rfl rfl) k1
 have m2:∀x∈p2,x.block<W.heap.size:=by obtain ⟨m,hm⟩:=k2;exact DataW.trod_lt m _ _ _ hm
 have z2:=k2
 obtain ⟨a2,rfl,rfl,rfl,w2⟩:=open_int Tryz.underlying3 (hval 2 3 v2 rfl rfl) k2
 clear hA0 hval0 hsz0 hsz
 refine (YtjkokaockhecnaaGreatDoorA.walk_equalOne a0 a1 a2 W w0 w1 w2 hT).mono fun e W' ⟨he,bel⟩=>?_
 subst he
 exact ⟨_,rfl,_,_,_,[],_,[],hW',trodAll_mk1 (shut_bool Tryz.underlying4 _),(trodAll_cons_mk (Below.trod laidOut (by kernel_rfl) (of_decide_eq_true (by kernel_rfl)) z0 bel m0) (trodAll_cons_mk (Below.trod laidOut (by kernel_rfl) (of_decide_eq_true (by kernel_rfl)) z1 bel m1) (trodAll_cons_mk (Below.trod laidOut (by kernel_rfl) (of_decide_eq_true (by kernel_rfl)) z2 bel m2) trodAll_mk0))),rfl,bel.frame _,fun h=>by cases h⟩
theorem over:Rows.equalOneRow.holds Tryz.pinned (OpenSpec.ofChange Rows.equalOneSpec):=
 OpenClaim.holds_of_wide 3 Tryz.f3 rfl rfl rfl rfl rfl rfl rfl ⟨rfl,rfl,rfl,rfl,rfl⟩ rfl rfl rfl rfl rfl (by kernel_rfl) Tryz.func3 (by kernel_rfl)
  (of_decide_eq_true (by kernel_rfl)) (by unfold Func.isWrapper;first|(rw [if_pos (by decide+kernel)];kernel_rfl)|(rw [if_neg (by decide+kernel)];exact ⟨rfl,rfl⟩))
  (fun os started H enc _=>lifted os started H enc)
theorem card:Rows.EqualOneCardSaid:=
 Claim7.holds_tied_plain_at .later [] [.data,.data,.data] true (true, "52845fe508dcabec48b8c09b0971282379919c52e0c7981bd53bbdeed90f8ec4") true over (fun _ h=>by cases h) (by kernel_rfl) (fun _ h=>by cases h) equalOne_row_tie rfl ⟨rfl,rfl⟩ (by kernel_rfl) rfl
  (fun f fn hf hfn=>by
   obtain rfl:f=3:=Option.some.inj ((show Tryz.prog.funcNamed "quiver/quiverlaw15.EqualOne" =some 3 by kernel_rfl).symm.trans hf) |>.symm
   obtain rfl:fn=Tryz.f3:=(Option.some.inj (Tryz.func3.symm.trans hfn)).symm
   exact ⟨by kernel_rfl,fun j t ht=>by
    rw [Tryz.params3] at ht
    have hm:t∈[3,3,3]:=by simpa using Array.mem_of_getElem? ht
    have hall:([3,3,3].all fun u=>!Tryz.prog.wantsStandIn u)=true:=by kernel_rfl
    exact (show Tryz.prog.wantsStandIn t=false by simpa using List.all_eq_true.1 hall t hm)⟩)
  (by kernel_rfl)
end Go.Proofs.YtjkokaockhecnaaGreatDoor.equalOne
namespace Go.Proofs.YtjkokaockhecnaaGreatDoor
theorem equalOne_holds:Rows.EqualOneCardSaid:=equalOne.card
#print axioms equalOne_holds
end Go.Proofs.YtjkokaockhecnaaGreatDoor
