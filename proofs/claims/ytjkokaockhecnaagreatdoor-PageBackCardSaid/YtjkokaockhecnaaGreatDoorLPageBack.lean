/- PageBack: for every input the law quiverlaw22.PageBack returns true, and each argument reads afterwards as it read before; no condition. -/
import Derived.Test.YtjkokaockhecnaaGreatDoorRows
import Derived.Test.YtjkokaockhecnaaGreatDoorCards
import Derived.Test.YtjkokaockhecnaaGreatDoorTie
import Derived.Test.YtjkokaockhecnaaGreatDoorPBack
import Derived.Test.YtjkokaockhecnaaGreatDoorArg5
import Derived.WalkKit
import Derived.ProofKit
import Derived.OpenShut
import Derived.ShutString
import Derived.ChangeOld
import Derived.Below
import Derived.Carry
import Derived.SizedLaws
import Derived.KernelRfl
import Derived.Handy
import Derived.Lay
import Derived.SevenTiedAt
import Derived.LaidSub
import Derived.Stop.LaidErr
import Derived.Shelf.Vars
namespace Go.Proofs.YtjkokaockhecnaaGreatDoorA
open Go
set_option linter.unusedVariables false
theorem walk_pageBack (v0:Value)(x0:List (El.den .node))(a1:Int)(v2:List Value)(x2:Col)(a3:Int)(a4:Int)(W:World)(r0:RepA W gAll (.L .node x0) v0)(o0:∀x∈x0,El.ok .node x)(w0:x0.length*24≤140737488351232)(w1:(Lit.int .i64 a1).wf=true)(r2:RepL W gAll (El.col.cells x2) v2)(y2:RoomyC x2)(w3:(Lit.int .i64 a3).wf=true)(w4:(Lit.int .i64 a4).wf=true)(hT:Tabs W):
  Calls Go.Proofs.Tryz.prog 5 #[.agg #[v0],.int .i64 a1,.agg v2.toArray,.int .i64 a3,.int .i64 a4] W fun e w'=>e=.returned (.bool true)∧RowKit.Below W.heap.size W w':=by
 have l0:(x0.length:Int)*24≤140737488351232:=by omega
 have h1:=i64_wf w1
 have h3:=i64_wf w3
 have h4:=i64_wf w4
 obtain ⟨k,h⟩:=YtjkokaockhecnaaGreatDoorP.pure_PageBack x0 a1 x2 a3 a4 y2
 exact (lv_ok k).law (f:=5) (us:=[.agg [.L .node x0],.int .i64 a1,.agg [.L (.int .i64) x2.reps,.L (.int .i64) x2.defs,.L .str x2.values],.int .i64 a3,.int .i64 a4]) (r:=true) h (by kernel_rfl) HEq.rfl (vals:=[.agg #[v0],.int .i64 a1,.agg v2.toArray,.int .i64 a3,.int .i64 a4]) (tabs_ok hT)
  (.cons ((RepL.cons r0 .nil).agg) (.cons (.int _ _) (.cons ((RepL.agg r2)) (.cons (.int _ _) (.cons (.int _ _) .nil)))))
end Go.Proofs.YtjkokaockhecnaaGreatDoorA
namespace Go.Proofs.YtjkokaockhecnaaGreatDoor.pageBack
open Go.ChangeShapes Go.WideShapes Go.ChangeAt Go.RowKit
open Go.ChangeMaps (open_string shut_string)
set_option linter.unusedVariables false
theorem own:ownKnob Tryz.prog.godebug=none:=by kernel_rfl
theorem laidOut:laidOutB Tryz.prog=true:=by kernel_rfl
theorem star: "*" ++ "errors.errorString" = "*errors.errorString" :=by decide
theorem errRow (u:TypeId)(h:Tryz.prog.typeName? 3 u=some "*errors.errorString"):u=225:=
 typeName_ptr_named (nm:= "errors.errorString") (by rw [star];kernel_rfl) (by kernel_rfl) (by decide) u (by rw [star];exact h)
set_option maxRecDepth 100000 in
theorem lifted (os:Os)(started:os.Started)(H:Type)(enc:TypeId×Value→H):
  ReturnsInHanded {} Tryz.checked os 5 .any (fun w args=>(Rows.pageBackSpec.pre enc Tryz.prog Tryz.f5 Rows.pageBackRow.domain false w args∧laidMetH Tryz.prog Rows.pageBackRow.laid w)∧sizedMet enc Tryz.prog Tryz.f5 (OpenSpec.ofChange Rows.pageBackSpec) false w args)
   (Rows.pageBackSpec.post enc Tryz.prog Tryz.f5 false true false false):=by
 refine YtjkokaockhecnaaGreatDoorA.returns_and_shaped (C:=Tryz.checked) (X:=fun w _=>laidMetH Tryz.prog Rows.pageBackRow.laid w) (fun _ _ _ hh h=>h.of_heap hh) own started (by kernel_rfl) Tryz.func5
  (ChangeSpec.witness_shaped (enc:=enc) (C:=Tryz.checked) (os:=os) (X:=fun w _=>laidMetH Tryz.prog Rows.pageBackRow.laid w) false (World.laidAll Tryz.prog os Rows.pageBackRow.laid) #[.agg #[.slice none 0 0],.int .i64 0,.agg #[.slice none 0 0,.slice none 0 0,.slice none 0 0],.int .i64 0,.int .i64 0] 8 (World.laidAll_os _ _ _)
   (World.shaped_of_ZipB (by kernel_rfl) (by kernel_rfl)) (by kernel_rfl) (by kernel_rfl) (by kernel_rfl)
   (by rw [MakeChecks.laidMetH_plain _ _ _ (by kernel_rfl)];exact laidMet_laidAll _ (by kernel_rfl) (by kernel_rfl))) ?_
 intro W base args ds gs before hval0 hW hcnd hsz0 hL hsh _
 have hsz:(DataW.weightsEach Tryz.prog (Tryz.f5.params.toList++Rows.pageBackSpec.plain.varTypes Tryz.prog) (ds++gs)).all (·≤reachBytes)=true:=hsz0
 rw [MakeChecks.laidMetH_plain _ _ _ (by kernel_rfl)] at hL
 have e0:Rows.pageBackRow.laid.filter (fun x=>x.1== "strconv.ErrSyntax")=[("strconv.ErrSyntax",.iface "*errors.errorString" (.ptr (.agg [.lit (.string [105,110,118,97,108,105,100,32,115,121,110,116,97,120])])))]:=by kernel_rfl
 have l0:=laidMet.filter (fun x=>x.1== "strconv.ErrSyntax") hL
 rw [e0] at l0
 have s0:YtjkokaockhecnaaGreatDoorA.SentIs Tryz.prog W "strconv.ErrSyntax" :=by
  obtain ⟨b,s,h,_⟩:=laid_sentinel (g:=0) (ti:=93) (tp:=225) (te:=227) (ts:=9) l0 (by kernel_rfl) (by kernel_rfl) Tryz.underlying93 errRow Tryz.underlying225 Tryz.underlying227 rfl rfl Tryz.underlying9 (by kernel_rfl) (by kernel_rfl)
  exact ⟨_,_,h⟩
 have e1:Rows.pageBackRow.laid.filter (fun x=>x.1== "strconv.ErrRange")=[("strconv.ErrRange",.iface "*errors.errorString" (.ptr (.agg [.lit (.string [118,97,108,117,101,32,111,117,116,32,111,102,32,114,97,110,103,101])])))]:=by kernel_rfl
 have l1:=laidMet.filter (fun x=>x.1== "strconv.ErrRange") hL
 rw [e1] at l1
 have s1:YtjkokaockhecnaaGreatDoorA.SentIs Tryz.prog W "strconv.ErrRange" :=by
  obtain ⟨b,s,h,_⟩:=laid_sentinel (g:=1) (ti:=93) (tp:=225) (te:=227) (ts:=9) l1 (by kernel_rfl) (by kernel_rfl) Tryz.underlying93 errRow Tryz.underlying225 Tryz.underlying227 rfl rfl Tryz.underlying9 (by kernel_rfl) (by kernel_rfl)
  exact ⟨_,_,h⟩
 have e2:Rows.pageBackRow.laid.filter (fun x=>x.1== "internal/strconv.uint64pow10")=[("internal/strconv.uint64pow10",Lib.tabData .u64 Lib.pow10Tab)]:=by kernel_rfl
 have l2:=laidMet.filter (fun x=>x.1== "internal/strconv.uint64pow10") hL
 rw [e2] at l2
 have s3:YtjkokaockhecnaaGreatDoorA.IntIs Tryz.prog W "internal/bytealg.MaxLen" :=by
  obtain ⟨m,h⟩:=cell_of_shapedOpen_int (P:=Tryz.prog) (g:=3) (t:=3) (zero:=#[.int .i64 0]) (k:=.i64) hsh (of_decide_eq_true (by kernel_rfl)) (by kernel_rfl) rfl (by kernel_rfl) (by kernel_rfl) Tryz.underlying3
  exact ⟨3,m,by kernel_rfl,h⟩
 have hT:YtjkokaockhecnaaGreatDoorA.Tabs W:=⟨s0,s1,Lib.tabIs_of_head (g:=2) (t:=235) (e:=148) (n:=20) (by kernel_rfl) (by kernel_rfl) (by kernel_rfl) (by kernel_rfl) (by kernel_rfl) (by kernel_rfl) l2,s3⟩
 have hval:∀(j:Nat) t v,Tryz.f5.params[j]?=some t→args[j]?=some v→Value.okWide Tryz.prog W .any base t v:=hval0
 have hW':=hW
 obtain ⟨p,q,hA0,hV,rfl,hfz,hnd⟩:=hW
 have hA:DataW.TrodAll enc Tryz.prog W 0 (fun _=>true) true Tryz.f5.params.toList args.toList ds p:=hA0
 rw [Tryz.params5] at hA hval hsz
 obtain ⟨v0,vs0,d0,ds0,p0,q0,hargs,rfl,rfl,k0,t0⟩:=trodAll_cons hA
 obtain ⟨v1,vs1,d1,ds1,p1,q1,rfl,rfl,rfl,k1,t1⟩:=trodAll_cons t0
 obtain ⟨v2,vs2,d2,ds2,p2,q2,rfl,rfl,rfl,k2,t2⟩:=trodAll_cons t1
 obtain ⟨v3,vs3,d3,ds3,p3,q3,rfl,rfl,rfl,k3,t3⟩:=trodAll_cons t2
 obtain ⟨v4,vs4,d4,ds4,p4,q4,rfl,rfl,rfl,k4,t4⟩:=trodAll_cons t3
 obtain ⟨rfl,rfl,rfl⟩:=trodAll_nil t4
 obtain rfl:args=#[v0,v1,v2,v3,v4]:=by cases args;simp_all
 obtain ⟨rfl,rfl⟩:=trodVars_none hV
 have m0:∀x∈p0,x.block<W.heap.size:=by obtain ⟨m,hm⟩:=k0;exact DataW.trod_lt m _ _ _ hm
 have z0:=k0
 obtain ⟨vv0,x0,rfl,r0,o0,w0,bu0⟩:=YtjkokaockhecnaaGreatDoorA.open_type Tryz.underlying32 (by kernel_rfl) (by kernel_rfl) (by kernel_rfl) Tryz.underlying30 (B:=24) (by kernel_rfl)
  (YtjkokaockhecnaaGreatDoorA.reads_list YtjkokaockhecnaaGreatDoorA.counts Tryz.underlying30 (by kernel_rfl) (t:=.node) (YtjkokaockhecnaaGreatDoorA.reads_node Tryz.underlying58 (by kernel_rfl) (by kernel_rfl) (by kernel_rfl) (by kernel_rfl) Tryz.underlying3 Tryz.underlying4)) (hval 0 32 v0 rfl rfl) k0 hsz (j:=0) rfl rfl
 have m1:∀x∈p1,x.block<W.heap.size:=by obtain ⟨m,hm⟩:=k1;exact DataW.trod_lt m _ _ _ hm
 have z1:=k1
 obtain ⟨a1,rfl,rfl,rfl,w1⟩:=open_int Tryz.underlying3 (hval 1 3 v1 rfl rfl) k1
 have m2:∀x∈p2,x.block<W.heap.size:=by obtain ⟨m,hm⟩:=k2;exact DataW.trod_lt m _ _ _ hm
 have z2:=k2
 obtain ⟨u2,x2,rfl,r2,y2⟩:=YtjkokaockhecnaaGreatDoorA.open_col ⟨⟨_,Tryz.underlying42,by kernel_rfl⟩,by kernel_rfl,by kernel_rfl,by kernel_rfl,by kernel_rfl,by kernel_rfl,Tryz.underlying40,Tryz.underlying23,Tryz.underlying3,Tryz.underlying9,by kernel_rfl,by kernel_rfl⟩ (hval 2 42 v2 rfl rfl) k2 hsz (j:=2) rfl rfl
 have m3:∀x∈p3,x.block<W.heap.size:=by obtain ⟨m,hm⟩:=k3;exact DataW.trod_lt m _ _ _ hm
 have z3:=k3
 obtain ⟨a3,rfl,rfl,rfl,w3⟩:=open_int Tryz.underlying3 (hval 3 3 v3 rfl rfl) k3
 have m4:∀x∈p4,x.block<W.heap.size:=by obtain ⟨m,hm⟩:=k4;exact DataW.trod_lt m _ _ _ hm
 have z4:=k4
 obtain ⟨a4,rfl,rfl,rfl,w4⟩:=open_int Tryz.underlying3 (hval 4 3 v4 rfl rfl) k4
 clear hA0 hval0 hsz0 hsz
 refine (YtjkokaockhecnaaGreatDoorA.walk_pageBack _ x0 a1 _ x2 a3 a4 W r0 o0 w0 w1 r2 y2 w3 w4 hT).mono fun e W' ⟨he,bel⟩=>?_
 subst he
 exact ⟨_,rfl,_,_,_,[],_,[],hW',trodAll_mk1 (shut_bool Tryz.underlying4 _),(trodAll_cons_mk (Below.trod laidOut (by kernel_rfl) (of_decide_eq_true (by kernel_rfl)) z0 bel m0) (trodAll_cons_mk (Below.trod laidOut (by kernel_rfl) (of_decide_eq_true (by kernel_rfl)) z1 bel m1) (trodAll_cons_mk (Below.trod laidOut (by kernel_rfl) (of_decide_eq_true (by kernel_rfl)) z2 bel m2) (trodAll_cons_mk (Below.trod laidOut (by kernel_rfl) (of_decide_eq_true (by kernel_rfl)) z3 bel m3) (trodAll_cons_mk (Below.trod laidOut (by kernel_rfl) (of_decide_eq_true (by kernel_rfl)) z4 bel m4) trodAll_mk0))))),rfl,bel.frame _,fun h=>by cases h⟩
theorem over:Rows.pageBackRow.holds Tryz.pinned (OpenSpec.ofChange Rows.pageBackSpec):=
 OpenClaim.holds_of_wide 5 Tryz.f5 rfl rfl rfl rfl rfl rfl rfl ⟨rfl,rfl,rfl,rfl,rfl⟩ rfl rfl rfl rfl rfl (by kernel_rfl) Tryz.func5 (by kernel_rfl)
  (of_decide_eq_true (by kernel_rfl)) (by unfold Func.isWrapper;first|(rw [if_pos (by decide+kernel)];kernel_rfl)|(rw [if_neg (by decide+kernel)];exact ⟨rfl,rfl⟩))
  (fun os started H enc _=>lifted os started H enc)
theorem card:Rows.PageBackCardSaid:=
 Claim7.holds_tied_plain_at .later [] [.data,.data,.data,.sentinel,.sentinel] true (true, "52845fe508dcabec48b8c09b0971282379919c52e0c7981bd53bbdeed90f8ec4") true over (fun _ h=>by cases h) (by kernel_rfl) (fun _ h=>by cases h) pageBack_row_tie rfl ⟨rfl,rfl⟩ (by kernel_rfl) rfl
  (fun f fn hf hfn=>by
   obtain rfl:f=5:=Option.some.inj ((show Tryz.prog.funcNamed "quiver/quiverlaw22.PageBack" =some 5 by kernel_rfl).symm.trans hf) |>.symm
   obtain rfl:fn=Tryz.f5:=(Option.some.inj (Tryz.func5.symm.trans hfn)).symm
   exact ⟨by kernel_rfl,fun j t ht=>by
    rw [Tryz.params5] at ht
    have hm:t∈[32,3,42,3,3]:=by simpa using Array.mem_of_getElem? ht
    have hall:([32,3,42,3,3].all fun u=>!Tryz.prog.wantsStandIn u)=true:=by kernel_rfl
    exact (show Tryz.prog.wantsStandIn t=false by simpa using List.all_eq_true.1 hall t hm)⟩)
  (by kernel_rfl)
end Go.Proofs.YtjkokaockhecnaaGreatDoor.pageBack
namespace Go.Proofs.YtjkokaockhecnaaGreatDoor
theorem pageBack_holds:Rows.PageBackCardSaid:=pageBack.card
#print axioms pageBack_holds
end Go.Proofs.YtjkokaockhecnaaGreatDoor
