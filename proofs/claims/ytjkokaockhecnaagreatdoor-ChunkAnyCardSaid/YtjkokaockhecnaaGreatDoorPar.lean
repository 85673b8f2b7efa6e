/- One operation: its continuation, and what of a state it looks at. -/
import Derived.Test.YtjkokaockhecnaaGreatDoorLvl
namespace Go.Proofs.YtjkokaockhecnaaGreatDoorA
open Go

section
variable {R : Type} {S S' : St}

/-! ### Continuations -/
theorem binK_bind {e i l nn : Bool} {op : BinOp} {x y : AV} {κ : AV → Option R} : binK e i l nn op x y κ = (binK e i l nn op x y some).bind κ := by
  unfold binK
  simp only [cond_eq_ite]
  repeat' (first | rfl | split)
theorem unK_bind {op : UnOp} {x : AV} {κ : AV → Option R} : unK op x κ = (unK op x some).bind κ := by
  unfold unK
  repeat' (first | rfl | split)
theorem Option.bind_bind' {α β γ : Type} (x : Option α) (f : α → Option β) (g : β → Option γ) : (x.bind f).bind g = x.bind fun a => (f a).bind g := by cases x <;> rfl
theorem loadK_bind {el : Option El} {a : AV} {n : Nat} {κ : List AV → Option R} : loadK S el a n κ = (loadK S el a n some).bind κ := by
  unfold loadK
  simp only [cond_eq_ite]
  repeat' (first | rfl | split)
  all_goals (rw [Option.bind_bind']; congr 1; funext y; first | (split <;> rfl) | (rw [Option.bind_bind']; congr 1; funext p; split <;> rfl))
theorem indexAddrK_bind {t : El} {x i : AV} {κ : AV → Option R} : indexAddrK S t x i κ = (indexAddrK S t x i some).bind κ := by
  unfold indexAddrK
  simp only [cond_eq_ite]
  repeat' (first | rfl | split)
  all_goals (first | (generalize rd _ _ = q; cases q <;> rfl))
theorem lenK_bind {ty : Option TyI} {x : AV} {κ : AV → Option R} : lenK S ty x κ = (lenK S ty x some).bind κ := by
  unfold lenK
  simp only [cond_eq_ite]
  repeat' (first | rfl | split)
theorem bound_bind {o : Option Operand} {y d : Nat} {κ : Nat → Option R} : bound S o y d κ = (bound S o y d some).bind κ := by
  unfold bound
  simp only [cond_eq_ite]
  repeat' (first | rfl | split)

def q2 {R : Type} (κ : AV → Option Root → Option R) (p : AV × Option Root) : Option R := κ p.1 p.2
def q0 (a : AV) (r : Option Root) : Option (AV × Option Root) := some (a, r)
theorem bind_q2 {κ : AV → Option Root → Option R} (x : Option AV) : (x.bind fun a => κ a none) = (x.bind fun a => q0 a none).bind (q2 κ) := by cases x <;> rfl

theorem stepV_bind {E : TypeId → Option TyI} {o : Oper} {κ : AV → Option Root → Option R} : stepV E o S κ = (stepV E o S q0).bind (q2 κ) := by
  unfold stepV
  cases o.op with
  | binOp op xT x y c =>
    simp only
    rw [binK_bind, binK_bind (κ := fun a => q0 a none)]
    exact bind_q2 _
  | unOp op t x =>
    simp only
    rw [unK_bind, unK_bind (κ := fun a => q0 a none)]
    exact bind_q2 _
  | load T x =>
    simp only
    split
    · rename_i i hi
      refine loadK_bind.trans (Eq.symm ((congrArg (fun q => Option.bind q (q2 κ)) loadK_bind).trans ?_))
      generalize loadK S _ _ _ some = q
      cases q with
      | none => rfl
      | some l => simp only [Option.bind_some]; split <;> rfl
    · rfl
  | indexAddr T x i =>
    simp only
    split
    · rw [indexAddrK_bind, indexAddrK_bind (κ := fun a => q0 a none)]
      exact bind_q2 _
    · rfl
  | index T x i =>
    simp only [cond_eq_ite]
    repeat' (first | rfl | split)
    generalize rd _ _ = q
    cases q <;> rfl
  | slice T x lo hi mx =>
    cases mx with
    | some m => rfl
    | none =>
      simp only [cond_eq_ite]
      have key : ∀ (y d : Nat) (f : Nat → Nat → AV), (bound S hi y d fun h => bound S lo h 0 fun l => κ (f h l) none) = (bound S hi y d fun h => bound S lo h 0 fun l => q0 (f h l) none).bind (q2 κ) := by
        intro y d f
        rw [bound_bind, bound_bind (κ := fun h => bound S lo h 0 fun l => q0 (f h l) none), Option.bind_bind']
        congr 1
        funext h
        rw [bound_bind, bound_bind (κ := fun l => q0 (f h l) none), Option.bind_bind']
        rfl
      repeat' (first | rfl | exact key _ _ _ | split)
  | call c =>
    simp only
    split
    · split
      · rw [lenK_bind, lenK_bind (κ := fun a => q0 a none)]
        exact bind_q2 _
      · rfl
    · repeat' (first | rfl | split)
    · repeat' (first | rfl | split)
    · rfl
  | makeFunc fn first captured =>
    cases fn with
    | func f => simp only [cond_eq_ite]; split <;> rfl
    | _ => rfl
  | _ =>
    simp only [cond_eq_ite]
    repeat' (first | rfl | split)

theorem stepC_bind {E : Env} {lv : Lv E.sig} {o : Oper} {c : Call} {κ : AV → Option Root → Option R} : stepC E lv o c S κ = (stepC E lv o c S q0).bind (q2 κ) := by
  unfold stepC
  simp only [cond_eq_ite]
  repeat' (first | rfl | split)
  all_goals (rw [Option.bind_bind']; rfl)
theorem stepQ_bind {E : Env} {lv : Lv E.sig} {o : Oper} {κ : AV → Option Root → Option R} : stepQ E lv o S κ = (stepQ E lv o S q0).bind (q2 κ) := by
  unfold stepQ
  split
  · split
    · exact stepV_bind
    · exact stepC_bind
  · exact stepV_bind

def w4 {R : Type} (κ : AV → Option Root → List (Nat × Root) → List Nat → Option R) (p : AV × Option Root × List (Nat × Root) × List Nat) : Option R := κ p.1 p.2.1 p.2.2.1 p.2.2.2
def w0 (a : AV) (r : Option Root) (rs : List (Nat × Root)) (ks : List Nat) : Option (AV × Option Root × List (Nat × Root) × List Nat) := some (a, r, rs, ks)
theorem storeK_bind {a : AV} {l : List AV} {κ : AV → Option Root → List (Nat × Root) → List Nat → Option R} : storeK S a l (κ .und none) = (storeK S a l (w0 .und none)).bind (w4 κ) := by
  unfold storeK
  simp only [cond_eq_ite]
  repeat' (first | rfl | split)
  all_goals (rw [Option.bind_bind']; congr 1; funext y; repeat' (first | rfl | split))
theorem copyK_bind {s j lo n : Nat} {t : El} {x : AV} {κ : AV → Option Root → List (Nat × Root) → List Nat → Option R} : copyK S s j lo n t x (fun a rs => κ a none rs []) = (copyK S s j lo n t x (fun a rs => w0 a none rs [])).bind (w4 κ) := by
  unfold copyK
  simp only [cond_eq_ite]
  repeat' (first | rfl | split)
theorem bwK_bind {s : Nat} {x : List UInt8} {κ : AV → Option Root → List (Nat × Root) → List Nat → Option R} : bwK S s x (fun rs => κ .und none rs [s]) = (bwK S s x (fun rs => w0 .und none rs [s])).bind (w4 κ) := by
  unfold bwK
  simp only [cond_eq_ite]
  repeat' (first | rfl | split)
theorem brK_bind {s e : Nat} {κ : AV → Option Root → List (Nat × Root) → List Nat → Option R} : brK S s e (fun a rs => κ a none rs [s]) = (brK S s e (fun a rs => w0 a none rs [s])).bind (w4 κ) := by
  unfold brK
  simp only [cond_eq_ite]
  repeat' (first | rfl | split)
theorem callW_bind {sig : FuncId → Sig} {pks : FuncId → List PK} {lv : Lv sig} {d : Nat} {f : FuncId} {as : List AV} {κ : AV → Option Root → List (Nat × Root) → List Nat → Option R} : callW sig pks lv d S f as κ = (callW sig pks lv d S f as w0).bind (w4 κ) := by
  unfold callW
  simp only [cond_eq_ite]
  split
  · split
    · rw [Option.bind_bind']
      congr 1
      funext r
      split <;> rfl
    · rfl
  · rfl
theorem stepW_bind {E : Env} {lv : Lv E.sig} {o : Oper} {κ : AV → Option Root → List (Nat × Root) → List Nat → Option R} : stepW E lv o S κ = (stepW E lv o S w0).bind (w4 κ) := by
  unfold stepW
  cases o.op with
  | store T a x =>
    simp only [cond_eq_ite]
    repeat' (first | rfl | exact storeK_bind | split)
  | call c =>
    simp only
    split
    · simp only [cond_eq_ite]
      repeat' (first | rfl | split)
      all_goals (rw [Option.bind_bind']; congr 1; funext c; rw [Option.bind_bind']; congr 1; funext p; split <;> rfl)
    · simp only [cond_eq_ite]
      repeat' (first | rfl | exact copyK_bind | split)
    · simp only [cond_eq_ite]
      repeat' (first | rfl | exact bwK_bind | exact brK_bind | exact callW_bind | split)
    · rfl
  | _ => rfl
theorem step1_bind {E : Env} {lv : Lv E.sig} {o : Oper} {κ : AV → Option Root → List (Nat × Root) → List Nat → Option R} : step1 E lv o S κ = (step1 E lv o S w0).bind (w4 κ) := by
  unfold step1
  cases quietOp E.pks o with
  | true =>
    simp only [cond]
    rw [stepQ_bind, stepQ_bind (κ := fun a r => w0 a r S.roots []), Option.bind_bind']
    rfl
  | false => exact stepW_bind

end
end Go.Proofs.YtjkokaockhecnaaGreatDoorA
