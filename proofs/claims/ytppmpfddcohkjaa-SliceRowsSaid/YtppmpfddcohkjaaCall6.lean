/- One operation: what it does is what the machine says. -/
import Derived.Test.YtppmpfddcohkjaaCall5
namespace Go.Proofs.YtppmpfddcohkjaaA
open Go

section
variable {elid : El → Nat} {n : Nat} {w w' w'' : World} {g g' g'' gc gc' : Gh} {S S' : St} {a : Act} {P : Program}

theorem run_call_fn {o : Oper} {c : Call} {x : Operand} {f : FuncId} {caps : Array Value} (ho : o.op = .call c) (hc : c.callee = .value x) (hx : a.eval x = .func (.func f) #[] caps) (hb : Bodied P f) :
    (execOp a.eval o).run P w = .ok (.enter f (c.args.map a.eval ++ caps)) w := by
  obtain ⟨fn, h1, h2, h3⟩ := hb
  unfold execOp; rw [ho]
  simp only [resolve, hc, hx, Deferred.ofValue]
  have h2' : fn.name ≠ "runtime.NumGoroutine" := by simpa using h2
  have h3' : fn.body ≠ none := by intro e; rw [e] at h3; simp at h3
  simp [invoke, callFunc, h1, h2', h3']

theorem callee_rep {c : Call} {f : FuncId} {as : List AV} (h : calleeOf S c = some (f, as)) (hS : Rel elid n w g S a) :
    ∃ vals : List Value, RepL w g as vals ∧ ∀ o : Oper, o.op = .call c → Bodied P f → (execOp a.eval o).run P w = .ok (.enter f vals.toArray) w := by
  unfold calleeOf at h
  split at h
  · rename_i x hx
    split at h
    · rename_i f' caps hev
      cases h
      have hv := hS.ev x
      rw [hev] at hv
      generalize hu : a.eval x = u at hv
      cases hv with
      | fn _ _ vs e1 e2 =>
        refine ⟨c.args.toList.map a.eval ++ vs, (hS.evL _).append ⟨e1, e2⟩, fun o ho hb => ?_⟩
        rw [run_call_fn ho hx hu hb]
        congr 2
        apply Array.toList_inj.mp
        simp
    · cases h
  · cases h

theorem look_dropAll {α : Type} (i : Nat) : ∀ (ss : List Nat) (l : List (Nat × α)), look i (dropAll ss l) = if i ∈ ss then none else look i l
  | [], l => by simp [dropAll]
  | s :: ss, l => by
    simp only [dropAll, look_dropAll i ss, look_drop1, List.mem_cons]
    by_cases h1 : i = s <;> by_cases h2 : i ∈ ss <;> simp [h1, h2]

theorem argsW_box {lend : Bool} : ∀ {ks : List PK} {as : List AV} {args : List Arg} {os : List Out}, argsW lend S S' ks as = some (args, os) → ∀ i s, BoxAt os i s → s ∈ boxesOf ks as
  | [], [], args, os, h, i, s, hb => by
    simp only [argsW, Option.some.injEq] at h; cases h
    obtain ⟨o, h, _⟩ := hb; simp at h
  | k :: ks, b :: as, args, os, h, i, s, hb => by
    simp only [argsW] at h
    cases hk : argW lend S S' k b with
    | none => rw [hk] at h; cases h
    | some rx =>
      obtain ⟨r, x⟩ := rx
      rw [hk] at h
      simp only [Option.bind_some] at h
      cases hm : argsW lend S S' ks as with
      | none => rw [hm] at h; cases h
      | some my =>
        obtain ⟨m, y⟩ := my
        rw [hm] at h
        simp only [Option.map_some, Option.some.injEq] at h
        cases h
        have tail : ∀ s, s ∈ boxesOf ks as → s ∈ boxesOf (k :: ks) (b :: as) := by
          intro s hs
          unfold boxesOf
          split
          · rename_i e1 e2; cases e1; cases e2; exact List.mem_cons_of_mem _ hs
          · rename_i e1 e2; cases e1; cases e2; exact hs
          · rename_i q1 q2; exact absurd rfl (q2 _ _ _ _ rfl)
        obtain ⟨o, h1, h2⟩ := hb
        cases i with
        | succ i => exact tail s (argsW_box hm i s ⟨o, by simpa using h1, h2⟩)
        | zero =>
          simp only [List.getElem?_cons_zero, Option.some.injEq] at h1
          subst h1
          unfold argW at hk
          cases hq : k.quiet with
          | true =>
            rw [hq] at hk
            simp only [cond] at hk
            cases hz : argQ lend S' k b with
            | none => rw [hz] at hk; cases hk
            | some z => rw [hz] at hk; cases hk; cases h2
          | false =>
            rw [hq] at hk
            simp only [cond] at hk
            split at hk
            · rename_i k
              cases hz : leafW S k b with
              | none => rw [hz] at hk; cases hk
              | some z => rw [hz] at hk; cases hk; cases h2
            · rename_i ks' cs
              cases hz : leavesW S ks' cs with
              | none => rw [hz] at hk; cases hk
              | some z => rw [hz] at hk; cases hk; cases h2
            · rename_i ks' s'
              split at hk
              · rename_i cs hroot
                cases hz : boxCells S s' 0 ks' cs with
                | none => rw [hz] at hk; cases hk
                | some z =>
                  rw [hz] at hk; cases hk
                  cases h2
                  simp [boxesOf]
              · cases hk
            · cases hk
  | [], _ :: _, _, _, h, _, _, _ => by simp [argsW] at h
  | _ :: _, [], _, _, h, _, _, _ => by simp [argsW] at h

theorem putBacks_look {os : List Out} : ∀ (l : List (Nat × List Cell)) {S S'' : St}, putBacks S os l = some S'' → ∀ s q, look s S''.roots = some q → (∃ i cs, (i, cs) ∈ l ∧ BoxAt os i s ∧ q = ⟨true, cs⟩) ∨ look s S.roots = some q
  | [], S, S'', h, s, q, hq => by simp only [putBacks, Option.some.injEq] at h; subst h; exact .inr hq
  | (i, cs) :: l, S, S'', h, s, q, hq => by
    simp only [putBacks] at h
    split at h
    · rename_i s' srcs ho
      rcases putBacks_look l h s q hq with ⟨i', cs', h1, h2, h3⟩ | h1
      · exact .inl ⟨i', cs', List.mem_cons_of_mem _ h1, h2, h3⟩
      · simp only [St.setRoot, look_put1] at h1
        by_cases e : s = s'
        · subst e
          rw [if_pos rfl] at h1
          cases h1
          exact .inl ⟨i, cs, List.mem_cons_self, ⟨_, ho, rfl⟩, rfl⟩
        · rw [if_neg e] at h1; exact .inr h1
    · cases h
theorem putBacks_tmps {os : List Out} : ∀ (l : List (Nat × List Cell)) {S S'' : St}, putBacks S os l = some S'' → True
  | _, _, _, _ => trivial

theorem forgetAll_look {p : Nat → Prop} : ∀ (l : List (Nat × Nat)) {S : St} {B : Nat → Nat → Prop}, (∀ s q, S.root s = some q → RepR elid w g s q ∧ p s ∧ ∀ j, B s j → ∀ t fz xs, q.cs[j]? ≠ some (.sl t fz xs)) →
    ∀ s q, (forgetAll S l).root s = some q → RepR elid w g s q ∧ p s ∧ ∀ j, B s j ∨ (s, j) ∈ l → ∀ t fz xs, q.cs[j]? ≠ some (.sl t fz xs)
  | [], S, B, hS, s, q, hq => by
    obtain ⟨h1, h2, h3⟩ := hS s q hq
    exact ⟨h1, h2, fun j hj => h3 j (by simpa using hj)⟩
  | x :: l, S, B, hS, s, q, hq => by
    have key : ∀ s q, (S.setCell x.1 x.2 (.av .und)).root s = some q → RepR elid w g s q ∧ p s ∧ ∀ j, (B s j ∨ (s, j) = x) → ∀ t fz xs, q.cs[j]? ≠ some (.sl t fz xs) := by
      intro s q hq
      cases hr : S.root x.1 with
      | none =>
        rw [setCell_none hr] at hq
        obtain ⟨h1, h2, h3⟩ := hS s q hq
        refine ⟨h1, h2, fun j hj => ?_⟩
        rcases hj with hj | hj
        · exact h3 j hj
        · rw [← hj] at hr; simp only at hr; rw [hr] at hq; cases hq
      | some r0 =>
        rw [root_setCell hr] at hq
        by_cases e : s = x.1
        · subst e
          rw [if_pos rfl] at hq
          cases hq
          obtain ⟨h1, h2, h3⟩ := hS _ _ hr
          refine ⟨h1.forget x.2, h2, fun j hj t fz xs e => ?_⟩
          simp only [List.getElem?_set] at e
          by_cases hjx : x.2 = j
          · rw [if_pos hjx] at e
            split at e <;> cases e
          · rw [if_neg hjx] at e
            rcases hj with hj | hj
            · exact h3 j hj t fz xs e
            · exact hjx (by rw [← hj])
        · rw [if_neg e] at hq
          obtain ⟨h1, h2, h3⟩ := hS s q hq
          refine ⟨h1, h2, fun j hj => ?_⟩
          rcases hj with hj | hj
          · exact h3 j hj
          · exact absurd (by rw [← hj]) e
    obtain ⟨h1, h2, h3⟩ := forgetAll_look l key s q hq
    refine ⟨h1, h2, fun j hj => h3 j ?_⟩
    rcases hj with hj | hj
    · exact .inl (.inl hj)
    · rcases List.mem_cons.mp hj with hj | hj
      · exact .inl (.inr hj)
      · exact .inr hj

theorem RepL.mono {l : List AV} {vs : List Value} (h : ∀ b v, RepA w g b v → RepA w' g' b v) (hl : RepL w g l vs) : RepL w' g' l vs :=
  ⟨hl.1, fun i h1 h2 => h _ _ (hl.2 i h1 h2)⟩
theorem StepOK.ahead {d : Nat} {av : AV} {v : Value} {rt : Option Root} {rs : List (Nat × Root)} {ks : List Nat} (hi : Inv w g w g') (hk : ∀ b v, RepA w g b v → RepA w g' b v) (h : StepOK elid w g' w'' g'' d av v rt rs ks) :
    StepOK elid w g w'' g'' d av v rt rs ks :=
  ⟨hi.trans h.inv, fun b u hb => h.keep b u (hk b u hb), h.val, h.old, h.others, h.new⟩

theorem callW_sound {R : Type} {sig : FuncId → Sig} {pks : FuncId → List PK} {lv : Lv sig} (hlv : LvOK P elid sig lv) {o : Oper} {κ : AV → Option Root → List (Nat × Root) → List Nat → Option R} {r : R} {c : Call} {f : FuncId} {as : List AV} {d : Nat}
    (ho : o.op = .call c) (hc : calleeOf S c = some (f, as)) (h : callW sig pks lv d S f as κ = some r) (hS : Rel elid n w g S a) : WOK elid P w g a o d κ r := by
  obtain ⟨vals, hvals, hrun⟩ := callee_rep (P := P) hc hS
  obtain ⟨g1, hS1, i1, r1⟩ := hS.frzAll (frzArgs S (pks f) as)
  unfold callW at h
  simp only at h
  generalize hS1e : frzAll S (frzArgs S (pks f) as) = S1 at h hS1
  have hS2 : Rel elid n w g1 ⟨S1.tmps, dropAll (boxesOf (pks f) as) S1.roots⟩ a := by
    refine ⟨hS1.size, hS1.df, hS1.tm, fun s q hq => hS1.rt s q ?_⟩
    have hq' : look s (dropAll (boxesOf (pks f) as) S1.roots) = some q := hq
    rw [look_dropAll] at hq'
    split at hq'
    · cases hq'
    · exact hq'
  generalize hS2e : (⟨S1.tmps, dropAll (boxesOf (pks f) as) S1.roots⟩ : St) = S2 at h hS2
  cases hA : argsW false S1 S2 (pks f) as with
  | none => rw [hA] at h; cases h
  | some ao =>
    obtain ⟨args, os⟩ := ao
    rw [hA] at h
    simp only at h
    cases hnn : nodupN (boxesIn os) && nodupP (srcsOf os) with
    | false => rw [hnn] at h; cases h
    | true =>
      rw [hnn] at h
      simp only [cond] at h
      rw [Bool.and_eq_true] at hnn
      have n1 := nodupN_iff.1 hnn.1
      have n2 := nodupP_iff.1 hnn.2
      cases hl : lv f args with
      | none => rw [hl] at h; cases h
      | some rv =>
        rw [hl] at h
        simp only [Option.bind_some] at h
        split at h
        · rename_i S'' hpb
          have hg := CG.of (lend := false) (g := g1) n2 n1
          have hbx : ∀ s, S2.root s ≠ none → ∀ i, ¬ BoxAt os i s := by
            intro s hs i hb
            have := argsW_box hA i s hb
            apply hs
            rw [← hS2e]
            show look s (dropAll _ _) = none
            rw [look_dropAll, if_pos this]
          have hargs : ArgsOK elid w (gCal false g1 os) args vals := by
            obtain ⟨e1, e2, e3⟩ := argsW_rep hg (.inr rfl) (fun h => by cases h) hS1 hS2 hbx 0 hA (hvals.mono r1) (fun q hq => by rw [Nat.zero_add]) (fun h => by cases h)
            refine ⟨e1, fun k b hk => ?_, e3⟩
            obtain ⟨q, v, h1, h2, h3⟩ := e2 k b hk
            rw [Nat.zero_add] at h1
            subst h1
            exact ⟨v, h2, h3⟩
          obtain ⟨hbod, hcall⟩ := hlv f args rv hl
          intro K Q hK
          unfold Oper.wp
          rw [hrun o ho hbod]
          show Calls P f vals.toArray w _
          refine Calls.mono (hcall w _ vals hargs) ?_
          rintro e w' ⟨v, gc', rfl, hinv, hres⟩
          refine hK _ _ _ _ _ _ _ h (StepOK.ahead i1 r1 (call_ok hg n1 hinv hres (fun h => by cases h) (fun s q hq => ?_) rfl))
          rcases putBacks_look _ hpb s q hq with ⟨i, cs, h1, h2, rfl⟩ | h1
          · exact .inl ⟨i, h2, h1, rfl⟩
          · obtain ⟨q1, q2, q3⟩ := forgetAll_look (elid := elid) (w := w) (g := g1) (p := fun s => ∀ i, ¬ BoxAt os i s) (srcsOf os) (S := S2) (B := fun _ _ => False)
              (fun s q hq => ⟨hS2.rt s q hq, hbx s (by rw [hq]; simp), fun j h => h.elim⟩) s q h1
            exact .inr ⟨q1, q2, fun i p j hj => q3 j (.inr (srcAt_mem hj))⟩
        · cases h

/-- What an operation that leaves alone what is owned has done, by the model's rule for it. -/
def QOK {R : Type} (elid : El → Nat) (P : Program) (w : World) (g : Gh) (a : Act) (o : Oper) (d : Nat) (κ : AV → Option Root → Option R) (r : R) : Prop :=
  ∀ (K : Act → World → Prop) (Q : Exit → Act → World → Prop), (∀ av v rt w' g', κ av rt = some r → Quiet w g w' g' d → RepA w' g' av v → (rt = none → g'.hs = g.hs ∧ g'.hb = g.hb) →
    (∀ q, rt = some q → RepR elid w' g' d ⟨q.box, killC d q.cs⟩) → K (a.put o.dst v) w') → o.wp P a w K Q

theorem VOK.qok {R : Type} {o : Oper} {d : Nat} {κ : AV → Option Root → Option R} {r : R} (h : VOK elid P w g a o d κ r) : QOK elid P w g a o d κ r := by
  obtain ⟨av, rt, v, w', g', h1, h2, h3, h4, h5, h6⟩ := h
  intro K Q hK
  unfold Oper.wp
  rw [h2]
  exact hK _ _ _ _ _ h1 h3 h4 h5 h6

theorem argsQ_rep {lend : Bool} (hg : CG lend g gc []) (hS : Rel elid n w g S a) : ∀ {ks : List PK} {as : List AV} {args : List Arg} {vals : List Value} (i0 : Nat), argsQ lend S ks as = some args → RepL w g as vals →
    args.length = vals.length ∧ (∀ k b, look k (enterT i0 args) = some b → ∃ q v, k = i0 + q ∧ vals[q]? = some v ∧ RepA w gc b v) ∧ enterR i0 args = []
  | [], [], args, vals, i0, h, hr => by
    simp only [argsQ, Option.some.injEq] at h; cases h
    rw [hr.nil_inv]
    exact ⟨rfl, fun k b hk => by simp [enterT, look] at hk, rfl⟩
  | k :: ks, b :: as, args, vals, i0, h, hr => by
    obtain ⟨v, vs, rfl, h1, h2⟩ := hr.cons_inv
    simp only [argsQ] at h
    cases hb : argQ lend S k b with
    | none => rw [hb] at h; cases h
    | some r =>
      rw [hb] at h
      simp only [Option.bind_some] at h
      cases hm : argsQ lend S ks as with
      | none => rw [hm] at h; cases h
      | some m =>
        rw [hm] at h
        simp only [Option.map_some, Option.some.injEq] at h
        cases h
        obtain ⟨c, rfl, hc⟩ := argQ_rep hg (fun _ i p s j ⟨o, h, _⟩ => by simp at h) hS (fun s _ i ⟨o, h, _⟩ => by simp at h) hb h1
        obtain ⟨e1, e2, e3⟩ := argsQ_rep hg hS (i0 + 1) hm h2
        refine ⟨by simp [e1], fun k' b' hk => ?_, by simp [enterR, e3]⟩
        simp only [enterT, look] at hk
        cases e : Nat.beq i0 k' with
        | true =>
          rw [e] at hk; cases hk
          exact ⟨0, v, by have := Nat.eq_of_beq_eq_true e; omega, by simp, hc⟩
        | false =>
          rw [e] at hk
          obtain ⟨q, v', q1, q2, q3⟩ := e2 _ _ hk
          exact ⟨q + 1, v', by omega, by simpa using q2, q3⟩
  | [], _ :: _, _, _, _, h, _ => by simp [argsQ] at h
  | _ :: _, [], _, _, _, h, _ => by simp [argsQ] at h

theorem no_handed {s : Nat} {x : Option Nat} : ¬ Handed [] s x := by
  rintro (⟨_, i, o, h, _⟩ | ⟨i, p, j, _, o, h, _⟩) <;> simp at h

theorem stepC_sound {R : Type} {E : Env} {lv : Lv E.sig} (hlv : LvOK P elid E.sig lv) {o : Oper} {κ : AV → Option Root → Option R} {r : R} {c : Call} {d : Nat}
    (ho : o.op = .call c) (h : (match calleeOf S c with
      | some (f, as) =>
        match argsQ (E.sig f).lends S (E.pks f) as with
        | some args => bif (E.sig f).back.isEmpty then (lv f args).bind fun r =>
            κ (valOf (RKs.inj d 0 (E.sig f).res (Sig.res1 (E.sig f) r)).1) (bif hasOwn (RKs.inj d 0 (E.sig f).res (Sig.res1 (E.sig f) r)).2 then some ⟨false, (RKs.inj d 0 (E.sig f).res (Sig.res1 (E.sig f) r)).2⟩ else none)
          else none
        | none => none
      | none => none) = some r) (hS : Rel elid n w g S a) : QOK elid P w g a o d κ r := by
  split at h
  · rename_i f as hc
    obtain ⟨vals, hvals, hrun⟩ := callee_rep (P := P) hc hS
    split at h
    · rename_i args hA
      cases hbk : (E.sig f).back.isEmpty with
      | false => rw [hbk] at h; cases h
      | true =>
        rw [hbk] at h
        simp only [cond] at h
        cases hl : lv f args with
        | none => rw [hl] at h; cases h
        | some rv =>
          rw [hl] at h
          simp only [Option.bind_some] at h
          have hg := CG.of (lend := (E.sig f).lends) (g := g) (os := []) (by simp [srcsOf]) (by simp [boxesIn])
          have hargs : ArgsOK elid w (gCal (E.sig f).lends g []) args vals := by
            obtain ⟨e1, e2, e3⟩ := argsQ_rep hg hS 0 hA hvals
            refine ⟨e1, fun k b hk => ?_, fun s r hs => by rw [e3] at hs; simp [look] at hs⟩
            obtain ⟨q, v, h1, h2, h3⟩ := e2 k b hk
            rw [Nat.zero_add] at h1
            subst h1
            exact ⟨v, h2, h3⟩
          obtain ⟨hbod, hcall⟩ := hlv f args rv hl
          intro K Q hK
          unfold Oper.wp
          rw [hrun o ho hbod]
          show Calls P f vals.toArray w _
          refine Calls.mono (hcall w _ vals hargs) ?_
          rintro e w' ⟨v, gc', rfl, hinv, hres⟩
          have hok := call_ok (d := d) (rs := S.roots) hg (by simp [boxesIn]) hinv hres (fun h => ⟨rfl, h⟩)
            (fun s q hq => .inr ⟨hS.rt s q hq, (fun i ⟨o, h, _⟩ => by simp at h), fun i p j ⟨o, h, _⟩ => by simp at h⟩) rfl
          generalize hGe : hasOwn (RKs.inj d 0 (E.sig f).res (Sig.res1 (E.sig f) rv)).2 = G at hok h
          refine hK _ _ _ _ _ h ⟨?_, ?_, ?_⟩ hok.val ?_ hok.new
          · exact (aft_chg hg hinv).mono fun b o _ ⟨s, x, _, h⟩ => absurd h no_handed
          · refine ⟨fun b o hb h => aft_old hb h (fun s x e => by cases e), fun b o hb h => aft_old hb h (fun s x e => by cases e), fun b o hb h => aft_old hb h (fun s x e => by cases e),
              fun b o s x hb _ h => aft_old hb h (fun s x _ => no_handed), fun s j hs => aft_hs_old (fun h => hs h.1) (fun i ⟨o, h, _⟩ => by simp at h), fun _ _ => rfl⟩
          · exact fun b o hb => aft_old hb rfl (fun s x _ => no_handed)
          · intro hn
            have : G = false := by
              cases hG : G with
              | false => rfl
              | true => rw [hG] at hn; cases hn
            refine ⟨?_, rfl⟩
            funext s j
            exact aft_hs_old (by rw [this]; simp) (fun i ⟨o, h, _⟩ => by simp at h)
    · cases h
  · cases h

theorem stepQ_sound {R : Type} {E : Env} {lv : Lv E.sig} (hE : ∀ T i, E.ty T = some i → TyOK P elid T i) (hlv : LvOK P elid E.sig lv) {o : Oper} {κ : AV → Option Root → Option R} {r : R}
    (h : stepQ E lv o S κ = some r) (hS : Rel elid n w g S a) : QOK elid P w g a o (match o.dst with | some d => d | none => 0) κ r := by
  unfold stepQ at h
  split at h
  · rename_i c ho
    split at h
    · exact (stepV_sound hE h hS).qok
    · exact stepC_sound hlv ho h hS
  · exact (stepV_sound hE h hS).qok

theorem QOK.wok {R : Type} {o : Oper} {d : Nat} (hd : d < 1000) {κ : AV → Option Root → List (Nat × Root) → List Nat → Option R} {r : R} (hS : Rel elid n w g S a) (h : QOK elid P w g a o d (fun a r => κ a r S.roots []) r) : WOK elid P w g a o d κ r := by
  intro K Q hK
  refine h K Q fun av v rt w' g' hκ hq hv hn hr => hK _ _ _ _ _ _ _ hκ ⟨hq.inv hd, fun b u hb hd _ => ?_, hv, fun hrt s r hs => ?_, fun _ s r hs hsd => ?_, hr⟩
  · rcases hd with hrt | hd
    · obtain ⟨e1, e2⟩ := hn hrt
      exact hb.pres hq.chg (fun _ _ _ h => h.elim) ⟨hq.gch.imm, hq.gch.bor, fun _ _ _ => by rw [e1], fun _ _ => by rw [e2]⟩ (avoids_none b)
    · exact hb.quiet hq hd
  · obtain ⟨e1, e2⟩ := hn hrt
    exact (hS.rt s r hs).pres (M := fun _ _ => False) (N := fun _ _ => False) (hq.chg.mono fun _ _ _ h => h.elim) ⟨hq.gch.imm, hq.gch.bor, fun _ _ _ => by rw [e1], fun _ _ => by rw [e2]⟩ (fun _ _ _ h => h.elim) (fun b o x hb e => (hq.who b o hb).trans e) (fun _ h => h) (fun b _ => avoids_none b)
  · exact ((hS.rt s r hs).kill d).pres (M := fun _ _ => False) (hq.chg.mono fun _ _ _ h => h.elim) hq.gch.ga (fun _ _ _ h => h.elim) (fun b o x hb e => (hq.who b o hb).trans e) (fun _ => hsd) (fun b hb => mem_killC hb)

theorem stepW_sound {R : Type} {E : Env} {lv : Lv E.sig} (hE : ∀ T i, E.ty T = some i → TyOK P elid T i) (hlv : LvOK P elid E.sig lv) {o : Oper} {κ : AV → Option Root → List (Nat × Root) → List Nat → Option R} {r : R}
    (h : stepW E lv o S κ = some r) (hS : Rel elid n w g S a) : WOK elid P w g a o (match o.dst with | some d => d | none => 0) κ r := by
  unfold stepW at h
  simp only at h
  split at h
  · rename_i T x y ho; exact stepW_store hE ho h hS
  · rename_i c ho
    split at h
    · rename_i hb; exact stepW_append hE ho hb h hS
    · split at h
      · rename_i f as hc; exact callW_sound hlv ho hc h hS
      · cases h
    · cases h
  · cases h

/-- One operation. -/
theorem step1_sound {R : Type} {E : Env} {lv : Lv E.sig} (hE : ∀ T i, E.ty T = some i → TyOK P elid T i) (hlv : LvOK P elid E.sig lv) {o : Oper} (hd : (match o.dst with | some d => d | none => 0) < 1000)
    {κ : AV → Option Root → List (Nat × Root) → List Nat → Option R} {r : R} (h : step1 E lv o S κ = some r) (hS : Rel elid n w g S a) : WOK elid P w g a o (match o.dst with | some d => d | none => 0) κ r := by
  unfold step1 at h
  cases hq : quietOp E.pks o with
  | true => rw [hq] at h; exact (stepQ_sound hE hlv h hS).wok hd hS
  | false => rw [hq] at h; exact stepW_sound hE hlv h hS

end
end Go.Proofs.YtppmpfddcohkjaaA
